/- The machine's side and plain lemmas for FnCombsAndRings: texts of this session, merged by its program (part 3). -/
import Derived.Laws.CopyOwn
import Derived.Laws.Rows
import Derived.Test.YtapffhnkfgkboaaMFnCombsAndRings0
import Derived.Test.YtapffhnkfgkboaaMFnCombsAndRings1
import Derived.Test.YtapffhnkfgkboaaMFnCombsAndRings2
set_option maxHeartbeats 80000000
set_option maxRecDepth 100000
namespace Go.Proofs.Ytapffhnkfgkboaa.Fn
open Go.RowKit Go.Proofs.YtapffhnkfgkboaaW.PrintWords Go.Proofs.YtapffhnkfgkboaaW.PrintLast Go.Proofs.YtapffhnkfgkboaaW.PrintMore
attribute [local go_sem] max2_int min2_int max_two min_two max_three min_three max_four min_four
set_option linter.unusedVariables false
set_option linter.unusedSimpArgs false
def Zbn.l0 : Nat → List Int → Int → Int → Option (List Int × Bool)
 | 0, _, _, _ => none
 | k + 1, x4, x9, x10 => if x10 < x9 then (if x4.length < 17592186044416 then (Zbn.l0 k (x4 ++ [wrap64 (x10 - 1)]) x9 (wrap64 (x10 + 1))) else (none)) else (some (x4, true))
def Zbn.f (k : Nat) (a0 : Int) : Option (List Int × Bool) := (Zcs.f a0).bind fun t248 => (if t248 = true then (Zbn.l0 k ([] : List Int) a0 0) else (some (([] : List Int), false)))
theorem Zbn.mono_l : ∀ k, (∀ y0 y1 y2, LeO (Zbn.l0 k y0 y1 y2) (Zbn.l0 (k + 1) y0 y1 y2))
 | 0 => fun _ _ _ r h => by simp [Zbn.l0] at h
 | k + 1 => by
  have ih0 := Zbn.mono_l k
  ·intro y0 y1 y2
   unfold Zbn.l0
   repeat' (first | (with_reducible first | exact ih0 _ _ _ | exact LeO.refl _ | exact LeO.none _ | refine LeO.ite ?_ ?_ | refine LeO.bind ?_ (fun _ => ?_)) | exact ih0 _ _ _ | exact LeO.none _ | refine LeO.ite ?_ ?_ | refine LeO.bind ?_ (fun _ => ?_))
theorem Zbn.mono : ∀ a0 k, LeO (Zbn.f k a0) (Zbn.f (k + 1) a0) := by
 intro a0 k
 have ih0 := Zbn.mono_l k
 unfold Zbn.f
 repeat' (first | (with_reducible first | exact ih0 _ _ _ | exact LeO.refl _ | exact LeO.none _ | refine LeO.ite ?_ ?_ | refine LeO.bind ?_ (fun _ => ?_)) | exact ih0 _ _ _ | exact LeO.none _ | refine LeO.ite ?_ ?_ | refine LeO.bind ?_ (fun _ => ?_))
theorem Zbn.calls (k : Nat) (a0 : Int) (r1 : List Int) (r2 : Bool) (w : World) (h : Zbn.f k a0 = some (r1, r2)) :
  Calls Try.prog 15 #[.int .i64 a0] w fun e w' => ∃ v0_ : Value, e = .returned (.tuple #[v0_, .bool r2]) ∧ Kd.R (Kd.int .i64) 3 w' w.heap.size (fun _ => True) v0_ r1 ∧ Below w.heap.size w w' := by
 have HB := Aside0.mk (Below.refl w.heap.size w)
 have H := h
 unfold Zbn.f at H
 clear h
 obtain ⟨t248, A2, H⟩ := bs_ H
 (try dsimp only at H)
 by_cases c3 : t248 = true
 rotate_left
 ·replace c3 := Bool.eq_false_iff.mpr c3
  subst c3
  replace H := if_ H
  simp only [Option.some.injEq, Prod.mk.injEq] at H
  obtain ⟨rfl, rfl⟩ := H
  go_enter Try.func15, Try.ntmps15
  go_wp2_with (first | ((with_reducible refine gate_callee (f := 43) rfl ?_); refine goesA (some 7) Try.func43 #[.int .i64 a0] ?_; (with_reducible refine (Zcs.calls a0 false _ A2.out).mono ?_); rintro e w' ⟨rfl, ⟨nd, rfl⟩⟩; refine ⟨_, rfl, ?_⟩))
  go_ret2
  exact ⟨_, eqr, by first | exact Kd.R_nil _ _ _ _ _ | exact Kd.N_nil _ _ _ _ _ | exact Kd.V_nil _ _ _ _ _ | exact Kd.Q_nil _ _ _ _ _ | exact Kd.S_nil _ _ _ _ _, atB HB⟩
 subst c3
 replace H := it_ H
 have H' := Aside0.mk H
 clear H
 go_enter Try.func15, Try.ntmps15
 go_wp2_with (first | ((with_reducible refine gate_callee (f := 43) rfl ?_); refine goesA (some 7) Try.func43 #[.int .i64 a0] ?_; (with_reducible refine (Zcs.calls a0 true _ A2.out).mono ?_); rintro e w' ⟨rfl, ⟨nd, rfl⟩⟩; refine ⟨_, rfl, ?_⟩))
 go_loopg [4, 10] k (fun kq v4 v10 w' => ∃ (x4_1 : List Int) (x10_1 : Int), v10 = .int .i64 x10_1 ∧ Aside0 (Zbn.l0 kq x4_1 a0 x10_1 = some (r1, r2)) ∧ Aside0 (kq ≤ k) ∧ Aside0 (Kd.R (Kd.int .i64) 3 w' w.heap.size (fun _ => True) v4 x4_1) ∧ Aside0 (Below w.heap.size w w'))
 case atStart => exact ⟨(([] : List Int)), (0), eqd, H', ⟨Nat.le_refl _⟩, ⟨by first | exact Kd.R_nil _ _ _ _ _ | exact Kd.N_nil _ _ _ _ _ | exact Kd.V_nil _ _ _ _ _ | exact Kd.Q_nil _ _ _ _ _ | exact Kd.S_nil _ _ _ _ _⟩, ⟨atB HB⟩⟩
 case round =>
  clear H'
  try clear c3
  obtain ⟨x4_1, x10_1, rfl, HA, HK1, HO_4, HB⟩ := hrel
  cases gk with
  | zero => exact absurd HA.out (by simp [Zbn.l0])
  | succ k1 =>
   have H := HA.out
   clear HA
   simp only [Zbn.l0] at H
   by_cases c4 : x10_1 < a0
   rotate_left
   ·rw [if_neg c4] at H
    have c4b0 := decide_eq_false c4
    clear c4
    simp only [Option.some.injEq, Prod.mk.injEq] at H
    obtain ⟨rfl, rfl⟩ := H
    go_wp2
    go_ret2
    exact ⟨_, eqr, atR HO_4, atB HB⟩
   rw [if_pos c4] at H
   have c4b0 := decide_eq_true c4
   clear c4
   obtain ⟨c5, H⟩ := in0_ H
   have LMc5 := Aside0.mk c5
   clear c5
   obtain ⟨y249, hy249⟩ : ∃ y_ : List Int, y_ = (x4_1 ++ [wrap64 (x10_1 - 1)]) := ⟨_, rfl⟩
   replace H : (Zbn.l0 k1 y249 a0 (wrap64 (x10_1 + 1))) = some (r1, r2) := by first | (rw [hy249]; with_reducible exact H) | (have H2_ := (Option.bind_some _ _).symm.trans H; rw [hy249]; with_reducible exact H2_) | (have H2_ := (Option.bind_some _ _).symm.trans H; with_reducible exact H2_) | with_reducible exact H | (rw [hy249]; exact H) | exact H
   have Ny249 := Aside0.mk hy249
   clear hy249
   have H' := Aside0.mk H
   clear H
   go_wp2_with (first | ((with_reducible refine gate_builtin (b := .append) (xs := #[.tmp 13, .tmp 16]) rfl ?_); at_builtin; refine Kd.R_append (Kd.int .i64) (w0 := w) w.heap.size rfl (.tmp 13) (.tmp 16) 24 3 (.int .i64 0) 8 rfl Try.underlying24 info3 rfl (by decide) (by omega) u4 x4_1 (wrap64 (x10_1 - 1)) [.int .i64 (wrap64 (x10_1 - 1))] (fun _ => True) (fun _ => False) rfl rfl ?aP (fun _ hk => hk.elim) ?aF ?aO ?aB ?aS ?aL ?_; (case aP => exact rfl); (case aB => exact (atB HB)); (case aF => exact (fun _ _ => trivial)); (case aO => exact (atR HO_4)); (case aS => exact (szB HB)); (case aL => have := LMc5.out; omega); intro v250 w6 ho hb hg hat; rw [← Ny249.out] at ho; have HO251 := Aside0.mk (ho); replace HB := Aside0.mk (hb); clear HO_4; clear ho hb hg hat))
   go_roundg k1
   case measure => have := HK1.out; omega
   case rel => exact ⟨(y249), (wrap64 (x10_1 + 1)), eqd, H', ⟨by have := HK1.out; omega⟩, ⟨atR HO251⟩, ⟨atB HB⟩⟩
noncomputable def Zbn.F (a0 : Int) : Option (List Int × Bool) := lim fun k => Zbn.f k a0
theorem Zbn.F_lim (a0 : Int) : Lim (fun k => Zbn.f k a0) (Zbn.F a0) := Lim.of fun k => Zbn.mono a0 k
def Zcw.f (a0 : Int) : Option (List Int × Bool) := (Zcs.f a0).bind fun t256 => (if t256 = true then (if 0 ≤ a0 then (if (a0 : Int).toNat ≤ 35184372088832 then ((some (List.replicate (a0 : Int).toNat 0 : List Int)).bind fun y257 => (if 0 < (y257.length : Int) then (some ((y257.set (0 : Int).toNat (-1)), true)) else (none))) else (none)) else (none)) else (some (([] : List Int), false)))
theorem Zcw.calls (a0 : Int) (r1 : List Int) (r2 : Bool) (w : World) (h : Zcw.f a0 = some (r1, r2)) :
  Calls Try.prog 17 #[.int .i64 a0] w fun e w' => ∃ v0_ : Value, e = .returned (.tuple #[v0_, .bool r2]) ∧ Kd.R (Kd.int .i64) 3 w' w.heap.size (fun _ => True) v0_ r1 ∧ Below w.heap.size w w' := by
 have HB := Aside0.mk (Below.refl w.heap.size w)
 have H := h
 unfold Zcw.f at H
 clear h
 obtain ⟨t256, A2, H⟩ := bs_ H
 (try dsimp only at H)
 by_cases c3 : t256 = true
 rotate_left
 ·replace c3 := Bool.eq_false_iff.mpr c3
  subst c3
  replace H := if_ H
  simp only [Option.some.injEq, Prod.mk.injEq] at H
  obtain ⟨rfl, rfl⟩ := H
  go_enter Try.func17, Try.ntmps17
  go_wp2_with (first | ((with_reducible refine gate_callee (f := 43) rfl ?_); refine goesA (some 6) Try.func43 #[.int .i64 a0] ?_; (with_reducible refine (Zcs.calls a0 false _ A2.out).mono ?_); rintro e w' ⟨rfl, ⟨nd, rfl⟩⟩; refine ⟨_, rfl, ?_⟩))
  go_ret2
  exact ⟨_, eqr, by first | exact Kd.R_nil _ _ _ _ _ | exact Kd.N_nil _ _ _ _ _ | exact Kd.V_nil _ _ _ _ _ | exact Kd.Q_nil _ _ _ _ _ | exact Kd.S_nil _ _ _ _ _, atB HB⟩
 subst c3
 replace H := it_ H
 obtain ⟨c4b0, c4b1, H⟩ := in2_ H
 obtain ⟨c5b0, c5b1, H⟩ := in2_ H
 obtain ⟨y257, hy257⟩ : ∃ y_ : List Int, y_ = (List.replicate (a0 : Int).toNat 0) := ⟨_, rfl⟩
 replace H : (if 0 < (y257.length : Int) then (some ((y257.set (0 : Int).toNat (-1)), true)) else (none)) = some (r1, r2) := by first | (rw [hy257]; with_reducible exact H) | (have H2_ := (Option.bind_some _ _).symm.trans H; rw [hy257]; with_reducible exact H2_) | (have H2_ := (Option.bind_some _ _).symm.trans H; with_reducible exact H2_) | with_reducible exact H | (rw [hy257]; exact H) | exact H
 have Ny257 := Aside0.mk hy257
 clear hy257
 obtain ⟨c6, H⟩ := in0_ H
 have c6b0 := decide_eq_true c6
 have c6b1 : decide (0 < y257.length) = true := decide_eq_true (by omega)
 clear c6
 obtain ⟨y260, hy260⟩ : ∃ y_ : List Int, y_ = (y257.set (0 : Int).toNat (-1)) := ⟨_, rfl⟩
 replace H : (some (y260, true)) = some (r1, r2) := by first | (rw [hy260]; with_reducible exact H) | (have H2_ := (Option.bind_some _ _).symm.trans H; rw [hy260]; with_reducible exact H2_) | (have H2_ := (Option.bind_some _ _).symm.trans H; with_reducible exact H2_) | with_reducible exact H | (rw [hy260]; exact H) | exact H
 have Ny260 := Aside0.mk hy260
 clear hy260
 simp only [Option.some.injEq, Prod.mk.injEq] at H
 obtain ⟨rfl, rfl⟩ := H
 go_enter Try.func17, Try.ntmps17
 go_wp2_with (first | ((with_reducible refine gate_callee (f := 43) rfl ?_); refine goesA (some 6) Try.func43 #[.int .i64 a0] ?_; (with_reducible refine (Zcs.calls a0 true _ A2.out).mono ?_); rintro e w' ⟨rfl, ⟨nd, rfl⟩⟩; refine ⟨_, rfl, ?_⟩) | ((with_reducible refine gate_dst (N := 9) rfl ?_); refine Kd.R_make (Kd.int .i64) _ 3 rfl (N := 9) rfl 24 _ _ rfl a0 rfl rfl Try.underlying24 (.int .i64 0) 8 info3 rfl (by decide) (by omega) 0 (ok := fun _ => True) (okp := fun _ => True) rfl (fun _ hk => hk) trivial (of_decide_eq_true (by first | (with_reducible assumption) | assumption)) (Nat.le_trans (Nat.mul_le_mul_right _ (of_decide_eq_true (by first | (with_reducible assumption) | assumption) : a0.toNat ≤ 35184372088832)) (by omega)) (Below.refl _ _) (Nat.le_refl _) ?_; intro v258 w8 ho9 hb hg_ hnew_; clear hg_ hnew_; (first | rw [← Ny257.out] at ho9 | (simp only [Int.reduceToNat] at ho9; rw [← Ny257.out] at ho9)); have HO259 := lowR ho9 HB; replace HB := upB HB hb; clear hb ho9; have p7 : 0 ≤ (0 : Int) := (by omega); have q7 : (0 : Int) < ((y257.length : Int) : Int) := ofd; have qi7 : (0 < y257.length) = True := eq_true (by omega); obtain ⟨go7, co7, eo7, gb7, gl7, cl7, HG7⟩ := Kd.R_form HO259.out (by omega); (first | cases eo7 | (injection eo7 with ea_ en_ ec_; (first | subst ea_ | (injection ea_ with ea_; subst ea_)); subst ec_; clear en_)); have GB7 := Aside0.mk gb7; have GG7 := Aside0.mk HG7; clear gb7 gl7 HG7; obtain ⟨hx7_0, hf7_0⟩ := Kd.R_celln 0 HO259.out (0 : Int) p7 q7; (try rw [show ((0 : Int)).toNat = 0 from rfl] at hx7_0); (try simp only [Nat.reduceMul, Nat.zero_mul, Nat.zero_add, Nat.reduceAdd] at hx7_0); (try rw [show ((0 : Int)).toNat = 0 from rfl] at hf7_0); (try simp only [Nat.reduceMul, Nat.zero_mul, Nat.zero_add, Nat.reduceAdd] at hf7_0); replace p7 := eq_true p7; replace q7 := eq_true q7; obtain ⟨hy10_, hz10_⟩ := Kd.R_celln 0 HO259.out (0 : Int) (by omega) (of_decide_eq_true (by first | (with_reducible assumption) | assumption)); (try simp only [Int.reduceToNat, Int.toNat_zero, Int.toNat_ofNat, Nat.reduceMul, Nat.zero_mul, Nat.zero_add] at hy10_ hz10_); (try rw [show ((0 : Int)).toNat = 0 from rfl] at hy10_); (try rw [show ((0 : Int)).toNat = 0 from rfl] at hz10_); have HP10 := Kd.R_putg HO259.out (0 : Int) (-1)) | ((with_reducible refine gate_store (t := 3) (p := 11) rfl ?_); refine store_event (t := 3) (p := 11) (v := ?vo_w11) (w1 := (w8.setCell ⟨go7, (0 : Int).toNat, none⟩ (.int .i64 (-1)))) ?hg ?ho ?hn ?hr ?_; (case ho => rfl); (case hg => rfl); (case hn => rfl); (case hr => first | (go_simp; done) | (go_simp; rfl)); intro w11 hw; have hg : w8.grownBy w11 (some go7) := (by rw [hw]; exact HP10.2); have hp_ : Kd.R (Kd.int .i64) 3 w11 w.heap.size (fun _ => True) (.slice (some ⟨go7, 0, none⟩) y257.length co7) y260 := (by rw [hw, Ny260.out]; exact HP10.1); clear HP10; replace HO259 := Aside0.mk (hp_); replace HB := Aside0.mk ((by rw [hw]; exact below_set (HB.out) GB7.out : Below w.heap.size w w11)); clear hg hw hp_))
 go_ret2
 exact ⟨_, eqr, atR HO259, atB HB⟩
def Zct.f (l0 : List Int) : Option (Int) := (Zac.f l0 0 0 12).bind fun bt242 => ((Zac.f l0 bt242.2.1 bt242.2.2 9).bind fun bt245 => (some (wrap64 (bt242.1 - (wrap64 (Int.tdiv bt245.1 8))))))
theorem Zct.calls (A0 : Option Addr) (c0 : Nat) (l0 : List Int) (r : Int) (w : World) (hr0 : Kd.C (Kd.int .u8) w A0 l0.length l0) (hc0 : l0.length ≤ c0) (h : Zct.f l0 = some r) :
  Calls Try.prog 14 #[.slice A0 l0.length c0] w fun e w' => e = .returned (.int .i64 r) ∧ Below w.heap.size w w' := by
 have hu48 := Try.underlying48
 have HR0 := Aside0.mk hr0
 have HC0 := Aside0.mk hc0
 clear hr0 hc0
 have HB := Aside0.mk (Below.refl w.heap.size w)
 have H := h
 unfold Zct.f at H
 clear h
 replace H := Option.bind_eq_some_iff.mp H
 obtain ⟨⟨t242, t243, t244⟩, A20, H⟩ := H
 replace H : ((Zac.f l0 t243 t244 9).bind fun bt245 => (some (wrap64 (t242 - (wrap64 (Int.tdiv bt245.1 8)))))) = some r := H
 have A2 := Aside0.mk A20
 clear A20
 replace H := Option.bind_eq_some_iff.mp H
 obtain ⟨⟨t245, t246, t247⟩, A30, H⟩ := H
 replace H : (some (wrap64 (t242 - (wrap64 (Int.tdiv t245 8))))) = some r := H
 have A3 := Aside0.mk A30
 clear A30
 obtain rfl := Option.some.inj H
 go_enter Try.func14, Try.ntmps14
 go_wp2_with (first | ((with_reducible refine gate_dst (N := 6) rfl ?_); refine box_event ?hg (N := 6) ?hd (cs := #[.slice A0 l0.length c0, .int .i64 0, .int .u64 0]) (t := 48) ?hr ?_; (case hd => rfl); (case hg => rfl); (case hr => first | (go_simp; done) | (go_simp; rfl)); intro gb241 hg w4 hbox hb; have HI241 := Aside0.mk ((⟨_, _, hbox, (by rw [hg]; exact (szB HB) : w.heap.size ≤ gb241), HR0.out⟩ : IsS48 w w4 gb241 l0 0 0)); replace HB := upB HB hb; clear hb hbox hg) | ((with_reducible refine gate_callee (f := 42) rfl ?_); refine goesA (some 8) Try.func42 #[.pointer (some ⟨gb241, 0, none⟩), .int .i64 12] ?_; (with_reducible refine (Zac.calls gb241 l0 0 0 12 t242 t243 t244 w _ ?side1 ?side2 A2.out).mono ?_); (case side1 => exact IsS48.at HI241); (case side2 => exact atB HB); rintro e w5 ⟨rfl, hi, hb, hk⟩; refine ⟨_, rfl, ?_⟩; replace HB := Aside0.mk (hb); replace HI241 := Aside0.mk (hi)) | ((with_reducible refine gate_callee (f := 42) rfl ?_); refine goesA (some 10) Try.func42 #[.pointer (some ⟨gb241, 0, none⟩), .int .i64 9] ?_; (with_reducible refine (Zac.calls gb241 l0 t243 t244 9 t245 t246 t247 w _ ?side1 ?side2 A3.out).mono ?_); (case side1 => exact IsS48.at HI241); (case side2 => exact atB HB); rintro e w6 ⟨rfl, hi, hb, hk⟩; refine ⟨_, rfl, ?_⟩; replace HB := Aside0.mk (hb); replace HI241 := Aside0.mk (hi)))
 go_ret
 exact ⟨eqr, atB HB⟩
def Zbm.l0 : Nat → Int → List Int → Int → Option (List Int × Bool)
 | 0, _, _, _ => none
 | k + 1, x0, x4, x5 => if x5 < x0 then (if x4.length < 17592186044416 then (Zbm.l0 k x0 (x4 ++ [wrap64 (x5 - 1)]) (wrap64 (x5 + 1))) else (none)) else (some (x4, true))
def Zbm.f (k : Nat) (a0 : Int) : Option (List Int × Bool) := (Zcc.f a0 1 9).bind fun t252 => (if t252 = true then (Zbm.l0 k a0 ([] : List Int) 0) else (some (([] : List Int), false)))
theorem Zbm.mono_l : ∀ k, (∀ y0 y1 y2, LeO (Zbm.l0 k y0 y1 y2) (Zbm.l0 (k + 1) y0 y1 y2))
 | 0 => fun _ _ _ r h => by simp [Zbm.l0] at h
 | k + 1 => by
  have ih0 := Zbm.mono_l k
  ·intro y0 y1 y2
   unfold Zbm.l0
   repeat' (first | (with_reducible first | exact ih0 _ _ _ | exact LeO.refl _ | exact LeO.none _ | refine LeO.ite ?_ ?_ | refine LeO.bind ?_ (fun _ => ?_)) | exact ih0 _ _ _ | exact LeO.none _ | refine LeO.ite ?_ ?_ | refine LeO.bind ?_ (fun _ => ?_))
theorem Zbm.mono : ∀ a0 k, LeO (Zbm.f k a0) (Zbm.f (k + 1) a0) := by
 intro a0 k
 have ih0 := Zbm.mono_l k
 unfold Zbm.f
 repeat' (first | (with_reducible first | exact ih0 _ _ _ | exact LeO.refl _ | exact LeO.none _ | refine LeO.ite ?_ ?_ | refine LeO.bind ?_ (fun _ => ?_)) | exact ih0 _ _ _ | exact LeO.none _ | refine LeO.ite ?_ ?_ | refine LeO.bind ?_ (fun _ => ?_))
theorem Zbm.calls (k : Nat) (a0 : Int) (r1 : List Int) (r2 : Bool) (w : World) (h : Zbm.f k a0 = some (r1, r2)) :
  Calls Try.prog 16 #[.int .i64 a0] w fun e w' => ∃ v0_ : Value, e = .returned (.tuple #[v0_, .bool r2]) ∧ Kd.R (Kd.int .i64) 3 w' w.heap.size (fun _ => True) v0_ r1 ∧ Below w.heap.size w w' := by
 have HB := Aside0.mk (Below.refl w.heap.size w)
 have H := h
 unfold Zbm.f at H
 clear h
 obtain ⟨t252, A2, H⟩ := bs_ H
 (try dsimp only at H)
 by_cases c3 : t252 = true
 rotate_left
 ·replace c3 := Bool.eq_false_iff.mpr c3
  subst c3
  replace H := if_ H
  simp only [Option.some.injEq, Prod.mk.injEq] at H
  obtain ⟨rfl, rfl⟩ := H
  go_enter Try.func16, Try.ntmps16
  go_wp2_with (first | ((with_reducible refine gate_callee (f := 44) rfl ?_); refine goesA (some 7) Try.func44 #[.int .i64 a0, .int .i64 1, .int .i64 9] ?_; (with_reducible refine (Zcc.calls a0 1 9 false _ A2.out).mono ?_); rintro e w' ⟨rfl, ⟨nd, rfl⟩⟩; refine ⟨_, rfl, ?_⟩))
  go_ret2
  exact ⟨_, eqr, by first | exact Kd.R_nil _ _ _ _ _ | exact Kd.N_nil _ _ _ _ _ | exact Kd.V_nil _ _ _ _ _ | exact Kd.Q_nil _ _ _ _ _ | exact Kd.S_nil _ _ _ _ _, atB HB⟩
 subst c3
 replace H := it_ H
 have H' := Aside0.mk H
 clear H
 go_enter Try.func16, Try.ntmps16
 go_wp2_with (first | ((with_reducible refine gate_callee (f := 44) rfl ?_); refine goesA (some 7) Try.func44 #[.int .i64 a0, .int .i64 1, .int .i64 9] ?_; (with_reducible refine (Zcc.calls a0 1 9 true _ A2.out).mono ?_); rintro e w' ⟨rfl, ⟨nd, rfl⟩⟩; refine ⟨_, rfl, ?_⟩))
 go_loopg [4, 5] k (fun kq v4 v5 w' => ∃ (x4_1 : List Int) (x5_1 : Int), v5 = .int .i64 x5_1 ∧ Aside0 (Zbm.l0 kq a0 x4_1 x5_1 = some (r1, r2)) ∧ Aside0 (kq ≤ k) ∧ Aside0 (Kd.R (Kd.int .i64) 3 w' w.heap.size (fun _ => True) v4 x4_1) ∧ Aside0 (Below w.heap.size w w'))
 case atStart => exact ⟨(([] : List Int)), (0), eqd, H', ⟨Nat.le_refl _⟩, ⟨by first | exact Kd.R_nil _ _ _ _ _ | exact Kd.N_nil _ _ _ _ _ | exact Kd.V_nil _ _ _ _ _ | exact Kd.Q_nil _ _ _ _ _ | exact Kd.S_nil _ _ _ _ _⟩, ⟨atB HB⟩⟩
 case round =>
  clear H'
  try clear c3
  obtain ⟨x4_1, x5_1, rfl, HA, HK1, HO_4, HB⟩ := hrel
  cases gk with
  | zero => exact absurd HA.out (by simp [Zbm.l0])
  | succ k1 =>
   have H := HA.out
   clear HA
   simp only [Zbm.l0] at H
   by_cases c4 : x5_1 < a0
   rotate_left
   ·rw [if_neg c4] at H
    have c4b0 := decide_eq_false c4
    clear c4
    simp only [Option.some.injEq, Prod.mk.injEq] at H
    obtain ⟨rfl, rfl⟩ := H
    go_wp2
    go_ret2
    exact ⟨_, eqr, atR HO_4, atB HB⟩
   rw [if_pos c4] at H
   have c4b0 := decide_eq_true c4
   clear c4
   obtain ⟨c5, H⟩ := in0_ H
   have LMc5 := Aside0.mk c5
   clear c5
   obtain ⟨y253, hy253⟩ : ∃ y_ : List Int, y_ = (x4_1 ++ [wrap64 (x5_1 - 1)]) := ⟨_, rfl⟩
   replace H : (Zbm.l0 k1 a0 y253 (wrap64 (x5_1 + 1))) = some (r1, r2) := by first | (rw [hy253]; with_reducible exact H) | (have H2_ := (Option.bind_some _ _).symm.trans H; rw [hy253]; with_reducible exact H2_) | (have H2_ := (Option.bind_some _ _).symm.trans H; with_reducible exact H2_) | with_reducible exact H | (rw [hy253]; exact H) | exact H
   have Ny253 := Aside0.mk hy253
   clear hy253
   have H' := Aside0.mk H
   clear H
   go_wp2_with (first | ((with_reducible refine gate_builtin (b := .append) (xs := #[.tmp 14, .tmp 17]) rfl ?_); at_builtin; refine Kd.R_append (Kd.int .i64) (w0 := w) w.heap.size rfl (.tmp 14) (.tmp 17) 24 3 (.int .i64 0) 8 rfl Try.underlying24 info3 rfl (by decide) (by omega) u4 x4_1 (wrap64 (x5_1 - 1)) [.int .i64 (wrap64 (x5_1 - 1))] (fun _ => True) (fun _ => False) rfl rfl ?aP (fun _ hk => hk.elim) ?aF ?aO ?aB ?aS ?aL ?_; (case aP => exact rfl); (case aB => exact (atB HB)); (case aF => exact (fun _ _ => trivial)); (case aO => exact (atR HO_4)); (case aS => exact (szB HB)); (case aL => have := LMc5.out; omega); intro v254 w6 ho hb hg hat; rw [← Ny253.out] at ho; have HO255 := Aside0.mk (ho); replace HB := Aside0.mk (hb); clear HO_4; clear ho hb hg hat))
   go_roundg k1
   case measure => have := HK1.out; omega
   case rel => exact ⟨(y253), (wrap64 (x5_1 + 1)), eqd, H', ⟨by have := HK1.out; omega⟩, ⟨atR HO255⟩, ⟨atB HB⟩⟩
noncomputable def Zbm.F (a0 : Int) : Option (List Int × Bool) := lim fun k => Zbm.f k a0
theorem Zbm.F_lim (a0 : Int) : Lim (fun k => Zbm.f k a0) (Zbm.F a0) := Lim.of fun k => Zbm.mono a0 k
def Zcx.f (a0 : Int) : Option (List Int × Bool) := (Zcc.f a0 1 9).bind fun t261 => (if t261 = true then (if 0 ≤ a0 then (if (a0 : Int).toNat ≤ 35184372088832 then ((some (List.replicate (a0 : Int).toNat 0 : List Int)).bind fun y262 => (if 0 < (y262.length : Int) then (some ((y262.set (0 : Int).toNat (-1)), true)) else (none))) else (none)) else (none)) else (some (([] : List Int), false)))
theorem Zcx.calls (a0 : Int) (r1 : List Int) (r2 : Bool) (w : World) (h : Zcx.f a0 = some (r1, r2)) :
  Calls Try.prog 18 #[.int .i64 a0] w fun e w' => ∃ v0_ : Value, e = .returned (.tuple #[v0_, .bool r2]) ∧ Kd.R (Kd.int .i64) 3 w' w.heap.size (fun _ => True) v0_ r1 ∧ Below w.heap.size w w' := by
 have HB := Aside0.mk (Below.refl w.heap.size w)
 have H := h
 unfold Zcx.f at H
 clear h
 obtain ⟨t261, A2, H⟩ := bs_ H
 (try dsimp only at H)
 by_cases c3 : t261 = true
 rotate_left
 ·replace c3 := Bool.eq_false_iff.mpr c3
  subst c3
  replace H := if_ H
  simp only [Option.some.injEq, Prod.mk.injEq] at H
  obtain ⟨rfl, rfl⟩ := H
  go_enter Try.func18, Try.ntmps18
  go_wp2_with (first | ((with_reducible refine gate_callee (f := 44) rfl ?_); refine goesA (some 6) Try.func44 #[.int .i64 a0, .int .i64 1, .int .i64 9] ?_; (with_reducible refine (Zcc.calls a0 1 9 false _ A2.out).mono ?_); rintro e w' ⟨rfl, ⟨nd, rfl⟩⟩; refine ⟨_, rfl, ?_⟩))
  go_ret2
  exact ⟨_, eqr, by first | exact Kd.R_nil _ _ _ _ _ | exact Kd.N_nil _ _ _ _ _ | exact Kd.V_nil _ _ _ _ _ | exact Kd.Q_nil _ _ _ _ _ | exact Kd.S_nil _ _ _ _ _, atB HB⟩
 subst c3
 replace H := it_ H
 obtain ⟨c4b0, c4b1, H⟩ := in2_ H
 obtain ⟨c5b0, c5b1, H⟩ := in2_ H
 obtain ⟨y262, hy262⟩ : ∃ y_ : List Int, y_ = (List.replicate (a0 : Int).toNat 0) := ⟨_, rfl⟩
 replace H : (if 0 < (y262.length : Int) then (some ((y262.set (0 : Int).toNat (-1)), true)) else (none)) = some (r1, r2) := by first | (rw [hy262]; with_reducible exact H) | (have H2_ := (Option.bind_some _ _).symm.trans H; rw [hy262]; with_reducible exact H2_) | (have H2_ := (Option.bind_some _ _).symm.trans H; with_reducible exact H2_) | with_reducible exact H | (rw [hy262]; exact H) | exact H
 have Ny262 := Aside0.mk hy262
 clear hy262
 obtain ⟨c6, H⟩ := in0_ H
 have c6b0 := decide_eq_true c6
 have c6b1 : decide (0 < y262.length) = true := decide_eq_true (by omega)
 clear c6
 obtain ⟨y265, hy265⟩ : ∃ y_ : List Int, y_ = (y262.set (0 : Int).toNat (-1)) := ⟨_, rfl⟩
 replace H : (some (y265, true)) = some (r1, r2) := by first | (rw [hy265]; with_reducible exact H) | (have H2_ := (Option.bind_some _ _).symm.trans H; rw [hy265]; with_reducible exact H2_) | (have H2_ := (Option.bind_some _ _).symm.trans H; with_reducible exact H2_) | with_reducible exact H | (rw [hy265]; exact H) | exact H
 have Ny265 := Aside0.mk hy265
 clear hy265
 simp only [Option.some.injEq, Prod.mk.injEq] at H
 obtain ⟨rfl, rfl⟩ := H
 go_enter Try.func18, Try.ntmps18
 go_wp2_with (first | ((with_reducible refine gate_callee (f := 44) rfl ?_); refine goesA (some 6) Try.func44 #[.int .i64 a0, .int .i64 1, .int .i64 9] ?_; (with_reducible refine (Zcc.calls a0 1 9 true _ A2.out).mono ?_); rintro e w' ⟨rfl, ⟨nd, rfl⟩⟩; refine ⟨_, rfl, ?_⟩) | ((with_reducible refine gate_dst (N := 9) rfl ?_); refine Kd.R_make (Kd.int .i64) _ 3 rfl (N := 9) rfl 24 _ _ rfl a0 rfl rfl Try.underlying24 (.int .i64 0) 8 info3 rfl (by decide) (by omega) 0 (ok := fun _ => True) (okp := fun _ => True) rfl (fun _ hk => hk) trivial (of_decide_eq_true (by first | (with_reducible assumption) | assumption)) (Nat.le_trans (Nat.mul_le_mul_right _ (of_decide_eq_true (by first | (with_reducible assumption) | assumption) : a0.toNat ≤ 35184372088832)) (by omega)) (Below.refl _ _) (Nat.le_refl _) ?_; intro v263 w8 ho9 hb hg_ hnew_; clear hg_ hnew_; (first | rw [← Ny262.out] at ho9 | (simp only [Int.reduceToNat] at ho9; rw [← Ny262.out] at ho9)); have HO264 := lowR ho9 HB; replace HB := upB HB hb; clear hb ho9; have p7 : 0 ≤ (0 : Int) := (by omega); have q7 : (0 : Int) < ((y262.length : Int) : Int) := ofd; have qi7 : (0 < y262.length) = True := eq_true (by omega); obtain ⟨go7, co7, eo7, gb7, gl7, cl7, HG7⟩ := Kd.R_form HO264.out (by omega); (first | cases eo7 | (injection eo7 with ea_ en_ ec_; (first | subst ea_ | (injection ea_ with ea_; subst ea_)); subst ec_; clear en_)); have GB7 := Aside0.mk gb7; have GG7 := Aside0.mk HG7; clear gb7 gl7 HG7; obtain ⟨hx7_0, hf7_0⟩ := Kd.R_celln 0 HO264.out (0 : Int) p7 q7; (try rw [show ((0 : Int)).toNat = 0 from rfl] at hx7_0); (try simp only [Nat.reduceMul, Nat.zero_mul, Nat.zero_add, Nat.reduceAdd] at hx7_0); (try rw [show ((0 : Int)).toNat = 0 from rfl] at hf7_0); (try simp only [Nat.reduceMul, Nat.zero_mul, Nat.zero_add, Nat.reduceAdd] at hf7_0); replace p7 := eq_true p7; replace q7 := eq_true q7; obtain ⟨hy10_, hz10_⟩ := Kd.R_celln 0 HO264.out (0 : Int) (by omega) (of_decide_eq_true (by first | (with_reducible assumption) | assumption)); (try simp only [Int.reduceToNat, Int.toNat_zero, Int.toNat_ofNat, Nat.reduceMul, Nat.zero_mul, Nat.zero_add] at hy10_ hz10_); (try rw [show ((0 : Int)).toNat = 0 from rfl] at hy10_); (try rw [show ((0 : Int)).toNat = 0 from rfl] at hz10_); have HP10 := Kd.R_putg HO264.out (0 : Int) (-1)) | ((with_reducible refine gate_store (t := 3) (p := 11) rfl ?_); refine store_event (t := 3) (p := 11) (v := ?vo_w11) (w1 := (w8.setCell ⟨go7, (0 : Int).toNat, none⟩ (.int .i64 (-1)))) ?hg ?ho ?hn ?hr ?_; (case ho => rfl); (case hg => rfl); (case hn => rfl); (case hr => first | (go_simp; done) | (go_simp; rfl)); intro w11 hw; have hg : w8.grownBy w11 (some go7) := (by rw [hw]; exact HP10.2); have hp_ : Kd.R (Kd.int .i64) 3 w11 w.heap.size (fun _ => True) (.slice (some ⟨go7, 0, none⟩) y262.length co7) y265 := (by rw [hw, Ny265.out]; exact HP10.1); clear HP10; replace HO264 := Aside0.mk (hp_); replace HB := Aside0.mk ((by rw [hw]; exact below_set (HB.out) GB7.out : Below w.heap.size w w11)); clear hg hw hp_))
 go_ret2
 exact ⟨_, eqr, atR HO264, atB HB⟩
mutual
def Zbb.l0 : Nat → List Int → Int → Int → List Int → Int → Option (List Int × Bool)
 | 0, _, _, _, _, _ => none
 | k + 1, x0, x1, x6, x7, x8 => if x8 < (x0.length : Int) then (if 0 ≤ x8 then (if 0 ≤ (wrap64 (x8 - 1)) then (if (wrap64 (x8 - 1)) < (x0.length : Int) then ((Zcy.f (rd x0 x8) (rd x0 (wrap64 (x8 - 1)))).bind fun t349 => (if x7.length < 17592186044416 then (Zbb.l0 k x0 x1 x6 (x7 ++ [t349]) (wrap64 (x8 + 1))) else (none))) else (none)) else (none)) else (none)) else (if (x0.length : Int) = x1 then (if 0 < (x0.length : Int) then (if x7.length < 17592186044416 then ((Zbt.f k (x7 ++ [wrap64 (x6 - (rd x0 0))])).bind fun t357 => (some (x0, t357))) else (none)) else (none)) else (Zbb.l1 k x0 x1 x6 x7 (wrap64 (x1 + 1)) 0))
def Zbb.l1 : Nat → List Int → Int → Int → List Int → Int → Int → Option (List Int × Bool)
 | 0, _, _, _, _, _, _ => none
 | k + 1, x0, x1, x6, x7, x52, x53 => if x53 < x52 then ((Zah.f k x0 x53).bind fun t358 => (if t358 = true then (Zbb.j2 k x0 x1 x6 x7 x53 x52 x53 true) else ((Zcy.f x53 x6).bind fun t359 => ((Zah.f k x7 t359).bind fun t360 => (Zbb.j2 k x0 x1 x6 x7 x53 x52 x53 t360))))) else (some (([] : List Int), false))
def Zbb.j2 : Nat → List Int → Int → Int → List Int → Int → Int → Int → Bool → Option (List Int × Bool)
 | 0, _, _, _, _, _, _, _, _ => none
 | k + 1, x0, x1, x6, x7, x9, x52, x53, x65 => if x65 = true then (Zbb.l1 k x0 x1 x6 x7 x52 (wrap64 (x53 + 1))) else ((Zck.f x0).bind fun t361 => (if t361.length < 17592186044416 then ((Zbb.f k (t361 ++ [x9]) x1).bind fun bt367 => (if bt367.2 = true then (some (bt367.1, true)) else (Zbb.l1 k x0 x1 x6 x7 x52 (wrap64 (x53 + 1))))) else (none)))
def Zbb.f : Nat → List Int → Int → Option (List Int × Bool)
 | 0, _, _ => none
 | k + 1, l0, a1 => if 0 ≤ (wrap64 ((l0.length : Int) - 1)) then (if (wrap64 ((l0.length : Int) - 1)) < (l0.length : Int) then (Zbb.l0 k l0 a1 (rd l0 (wrap64 ((l0.length : Int) - 1))) ([] : List Int) 1) else (none)) else (none)
end
theorem Zbb.mono_l : ∀ k, (∀ y0 y1, LeO (Zbb.f k y0 y1) (Zbb.f (k + 1) y0 y1)) ∧ (∀ y0 y1 y2 y3 y4, LeO (Zbb.l0 k y0 y1 y2 y3 y4) (Zbb.l0 (k + 1) y0 y1 y2 y3 y4)) ∧ (∀ y0 y1 y2 y3 y4 y5, LeO (Zbb.l1 k y0 y1 y2 y3 y4 y5) (Zbb.l1 (k + 1) y0 y1 y2 y3 y4 y5)) ∧ (∀ y0 y1 y2 y3 y4 y5 y6 y7, LeO (Zbb.j2 k y0 y1 y2 y3 y4 y5 y6 y7) (Zbb.j2 (k + 1) y0 y1 y2 y3 y4 y5 y6 y7))
 | 0 => ⟨fun _ _ r h => by simp [Zbb.f] at h, fun _ _ _ _ _ r h => by simp [Zbb.l0] at h, fun _ _ _ _ _ _ r h => by simp [Zbb.l1] at h, fun _ _ _ _ _ _ _ _ r h => by simp [Zbb.j2] at h⟩
 | k + 1 => by
  obtain ⟨ih0, ih1, ih2, ih3⟩ := Zbb.mono_l k
  refine ⟨?_, ?_, ?_, ?_⟩
  ·intro y0 y1
   unfold Zbb.f
   repeat' (first | (with_reducible first | exact ih1 _ _ _ _ _ | exact LeO.refl _ | exact LeO.none _ | refine LeO.ite ?_ ?_ | refine LeO.bind ?_ (fun _ => ?_)) | exact ih1 _ _ _ _ _ | exact LeO.none _ | refine LeO.ite ?_ ?_ | refine LeO.bind ?_ (fun _ => ?_))
  ·intro y0 y1 y2 y3 y4
   unfold Zbb.l0
   repeat' (first | (with_reducible first | exact ih1 _ _ _ _ _ | exact ih2 _ _ _ _ _ _ | exact Zbt.mono _ _ | exact LeO.refl _ | exact LeO.none _ | refine LeO.ite ?_ ?_ | refine LeO.bind ?_ (fun _ => ?_)) | exact ih1 _ _ _ _ _ | exact ih2 _ _ _ _ _ _ | exact Zbt.mono _ _ | exact LeO.none _ | refine LeO.ite ?_ ?_ | refine LeO.bind ?_ (fun _ => ?_))
  ·intro y0 y1 y2 y3 y4 y5
   unfold Zbb.l1
   repeat' (first | (with_reducible first | exact ih3 _ _ _ _ _ _ _ _ | exact Zah.mono _ _ _ | exact LeO.refl _ | exact LeO.none _ | refine LeO.ite ?_ ?_ | refine LeO.bind ?_ (fun _ => ?_)) | exact ih3 _ _ _ _ _ _ _ _ | exact Zah.mono _ _ _ | exact LeO.none _ | refine LeO.ite ?_ ?_ | refine LeO.bind ?_ (fun _ => ?_))
  ·intro y0 y1 y2 y3 y4 y5 y6 y7
   unfold Zbb.j2
   repeat' (first | (with_reducible first | exact ih0 _ _ | exact ih2 _ _ _ _ _ _ | exact LeO.refl _ | exact LeO.none _ | refine LeO.ite ?_ ?_ | refine LeO.bind ?_ (fun _ => ?_)) | exact ih0 _ _ | exact ih2 _ _ _ _ _ _ | exact LeO.none _ | refine LeO.ite ?_ ?_ | refine LeO.bind ?_ (fun _ => ?_))
theorem Zbb.mono : ∀ a0 a1 k, LeO (Zbb.f k a0 a1) (Zbb.f (k + 1) a0 a1) := by
 intro a0 a1 k
 obtain ⟨ih0, ih1, ih2, ih3⟩ := Zbb.mono_l k
 exact ih0 a0 a1
def Zbb.T6 : Bool × List (List Nat × List Nat) := (true, [([], []), ([], []), ([], []), ([1, 2], [1, 2]), ([3], [3]), ([], []), ([], []), ([6], [6]), ([5, 7], [5, 7]), ([8], [8]), ([4, 9], [4, 9]), ([10], [10]), ([0, 11, 10], [0, 11]), ([12, 12, 0, 1, 2, 3, 4, 5, 6, 7, 8, 9, 10, 11, 12], [0, 12])])
def Zbb.B6 : List Nat := [0, 0, 0, 6, 14, 0, 0, 64, 224, 480, 1022, 2046, 4095, 8191]
theorem Zbb.tab6 : rtab .any (opsOf Try.f51 6) = Zbb.T6 := by kernel_rfl
theorem Zbb.bits6 : waitsOk Zbb.T6.2 Zbb.B6 = true := by kernel_rfl
theorem Zbb.calls (k : Nat) : ∀ (P0_ : Nat → Prop) (u9000_ : Value) (l0 : List Int) (a1 : Int) (r1 : List Int) (r2 : Bool) (w0 w : World) (hB : Below w0.heap.size w0 w) (ho0 : Kd.R (Kd.int .i64) 3 w w0.heap.size P0_ u9000_ l0) (h : Zbb.f k l0 a1 = some (r1, r2)),
  Calls Try.prog 51 #[u9000_, .int .i64 a1] w fun e w' => ∃ v0_ : Value, e = .returned (.tuple #[v0_, .bool r2]) ∧ Kd.R (Kd.int .i64) 3 w' w0.heap.size (fun k_ => (P0_ k_ ∨ w.heap.size ≤ k_)) v0_ r1 ∧ Below w0.heap.size w0 w' ∧ Kept w w' (fun k_ => P0_ k_) := by
 induction k using Nat.strongRecOn with
 | _ k ih =>
 intro P0_ u9000_ l0 a1 r1 r2 w0 w hB ho0 h
 cases k with
 | zero => exact absurd h (by simp [Zbb.f])
 | succ k =>
 simp only [Zbb.f] at h
 have HO0 := Aside0.mk (show Kd.R (Kd.int .i64) 3 w w0.heap.size (fun k_ => (P0_ k_ ∨ w.heap.size ≤ k_)) u9000_ l0 from Kd.R_mono ho0 (fun k_ hk => (.inl hk)))
 have HK := Aside0.mk (Kept.refl w (fun k_ => P0_ k_))
 have HW0 := Aside0.mk hB.size
 have HB := Aside0.mk hB
 clear hB
 have H := h
 unfold Zbb.f at H
 clear h
 obtain ⟨ji3, hji3⟩ : ∃ j_ : Int, (wrap64 ((l0.length : Int) - 1)) = j_ := ⟨_, rfl⟩
 replace H : (if 0 ≤ (ji3) then (if (ji3) < (l0.length : Int) then (Zbb.l0 k l0 a1 (rd l0 (ji3)) ([] : List Int) 1) else (none)) else (none)) = some (r1, r2) := by first | (rw [hji3] at H; exact H) | (simp only [hji3] at H ⊢; exact H)
 have hji3w : (IntKind.i64.wrap ((l0.length : Int) - 1)) = ji3 := (i64_w _).trans hji3
 obtain ⟨c4b0, H⟩ := in_ H
 obtain ⟨c5b0, H⟩ := in_ H
 have H' := Aside0.mk H
 clear H
 obtain ⟨Ao6, co6, eo6⟩ := Kd.R_slice HO0.out
 subst eo6
 have p346 : 0 ≤ ((ji3) : Int) := ofd
 have q346 : (ji3) < (l0.length : Int) := ofd
 obtain ⟨ad346, e346, hx346_0⟩ := Kd.at_int (Kd.R_reads' HO0.out).2.2 (ji3) p346 q346
 cases e346
 replace p346 := eq_true p346
 replace q346 := eq_true q346
 go_enter Try.func51, Try.ntmps51
 go_wp2
 go_loopg [7, 8] k (fun kq v7 v8 w' => ∃ (x7_1 : List Int) (x8_1 : Int), v8 = .int .i64 x8_1 ∧ Aside0 (Zbb.l0 kq l0 a1 (rd l0 (ji3)) x7_1 x8_1 = some (r1, r2)) ∧ Aside0 (kq ≤ k) ∧ Aside0 (Kd.R (Kd.int .i64) 3 w' w0.heap.size (fun k_ => (P0_ k_ ∨ w.heap.size ≤ k_) ∧ some k_ ≠ (v7 : Value).ownBlock) (.slice (some ad346) l0.length co6) l0) ∧ Aside0 (Kd.R (Kd.int .i64) 3 w' w0.heap.size (fun k_ => (P0_ k_ ∨ w.heap.size ≤ k_) ∧ some k_ ≠ ((.slice (some ad346) l0.length co6) : Value).ownBlock) v7 x7_1) ∧ Aside0 (Kept w w' (fun k_ => P0_ k_)) ∧ Aside0 (Below w0.heap.size w0 w'))
 case atStart => exact ⟨(([] : List Int)), (1), eqd, H', ⟨Nat.le_refl _⟩, ⟨by (with_reducible repeat (first | apply Kd.R_alloc | apply Kd.R_drewN | apply Kd.R_drew)); exact Kd.R_mono HO0.out (fun _ hk => ⟨hk, (by simp [Value.ownBlock])⟩)⟩, ⟨by first | exact Kd.R_nil _ _ _ _ _ | exact Kd.N_nil _ _ _ _ _ | exact Kd.V_nil _ _ _ _ _ | exact Kd.Q_nil _ _ _ _ _ | exact Kd.S_nil _ _ _ _ _⟩, ⟨by repeat (first | (with_reducible first | exact HK.out | apply Kept.alloc | apply Kept.drewN | apply Kept.drew) | exact HK.out)⟩, ⟨atB HB⟩⟩
 case round =>
  clear H'
  try clear c4b0
  try clear c5b0
  try clear hx346_0
  try clear p346
  try clear q346
  obtain ⟨x7_1, x8_1, rfl, HA, HK1, HO_0, HO_7, HK, HB⟩ := hrel
  cases gk with
  | zero => exact absurd HA.out (by simp [Zbb.l0])
  | succ k1 =>
   have H := HA.out
   clear HA
   simp only [Zbb.l0] at H
   by_cases c7 : x8_1 < (l0.length : Int)
   ·rw [if_pos c7] at H
    have c7b0 := decide_eq_true c7
    clear c7
    obtain ⟨c8b0, H⟩ := in_ H
    obtain ⟨ji9, hji9⟩ : ∃ j_ : Int, (wrap64 (x8_1 - 1)) = j_ := ⟨_, rfl⟩
    replace H : (if 0 ≤ (ji9) then (if (ji9) < (l0.length : Int) then ((Zcy.f (rd l0 x8_1) (rd l0 (ji9))).bind fun t349 => (if x7_1.length < 17592186044416 then (Zbb.l0 k1 l0 a1 (rd l0 (ji3)) (x7_1 ++ [t349]) (wrap64 (x8_1 + 1))) else (none))) else (none)) else (none)) = some (r1, r2) := by first | (rw [hji9] at H; exact H) | (simp only [hji9] at H ⊢; exact H)
    have hji9w : (IntKind.i64.wrap (x8_1 - 1)) = ji9 := (i64_w _).trans hji9
    obtain ⟨c10b0, H⟩ := in_ H
    obtain ⟨c11b0, H⟩ := in_ H
    obtain ⟨t349, A12, H⟩ := bs_ H
    (try dsimp only at H)
    obtain ⟨c13, H⟩ := in0_ H
    have LMc13 := Aside0.mk c13
    clear c13
    obtain ⟨y350, hy350⟩ : ∃ y_ : List Int, y_ = (x7_1 ++ [t349]) := ⟨_, rfl⟩
    replace H : (Zbb.l0 k1 l0 a1 (rd l0 (ji3)) y350 (wrap64 (x8_1 + 1))) = some (r1, r2) := by first | (rw [hy350]; with_reducible exact H) | (have H2_ := (Option.bind_some _ _).symm.trans H; rw [hy350]; with_reducible exact H2_) | (have H2_ := (Option.bind_some _ _).symm.trans H; with_reducible exact H2_) | with_reducible exact H | (rw [hy350]; exact H) | exact H
    have Ny350 := Aside0.mk hy350
    clear hy350
    have H' := Aside0.mk H
    clear H
    try go_wp2
    have n0_ := Aside0.mk (Kd.R_drew HO_0.out)
    have n1_ := Aside0.mk (Kd.R_drew HO_7.out)
    have n2_ := Aside0.mk (Kept.drew HK.out)
    have n3_ := Aside0.mk (below_drew1 HB.out)
    clear HO_0
    clear HO_7
    clear HK
    clear HB
    have HO_0 := n0_
    have HO_7 := n1_
    have HK := n2_
    have HB := n3_
    clear n0_ n1_ n2_ n3_
    have p347 : 0 ≤ (x8_1 : Int) := ofd
    have q347 : x8_1 < (l0.length : Int) := ofd
    obtain ⟨ad347, e347, hx347_0⟩ := Kd.at_int (Kd.R_reads' HO_0.out).2.2 x8_1 p347 q347
    obtain rfl : ad346 = ad347 := (by injection e347)
    replace p347 := eq_true p347
    replace q347 := eq_true q347
    have p348 : 0 ≤ ((ji9) : Int) := ofd
    have q348 : (ji9) < (l0.length : Int) := ofd
    obtain ⟨ad348, e348, hx348_0⟩ := Kd.at_int (Kd.R_reads' HO_0.out).2.2 (ji9) p348 q348
    obtain rfl : ad346 = ad348 := (by injection e348)
    replace p348 := eq_true p348
    replace q348 := eq_true q348
    refine start_ (n := 14) (S := fun w' => w'.cell? (ad346.add (x8_1).toNat) = some (.int .i64 (rd l0 x8_1)) ∧ w'.cell? (ad346.add ((ji9)).toNat) = some (.int .i64 (rd l0 (ji9)))) (ds := [11, 12]) #[false, false, false, false, false, false, false, false, false, false, false, false, false, false] (by kernel_rfl) rfl rfl ⟨hx347_0, hx348_0⟩ (fun hHeld => ?_); refine with_tabW Zbb.tab6 Zbb.bits6 (fun HT_ HW_ => ?_)
    generalize wr.drew = w14 at HO_0 HO_7 HK HB hx347_0 hx348_0 hHeld ⊢
    refine pure_ (i := 0) (N := some 24) (v := ?_) (a' := ?_) #[true, false, false, false, false, false, false, false, false, false, false, false, false, false] rfl rfl (any_of HT_.out (by kernel_rfl)) (fun _ _ _ h => h) (Or.inl ⟨by rfl, ?_⟩) ?_ ?_
    rotate_left
    ·intro w'
     go_simp
     with_reducible rfl
    rotate_left
    ·simp only [Act.put, List.setIfInBounds_toArray, List.set_cons_zero, List.set_cons_succ, i64_w, i32_w]
     rfl
    refine pure_ (i := 1) (N := some 25) (v := ?_) (a' := ?_) #[true, true, false, false, false, false, false, false, false, false, false, false, false, false] rfl rfl (any_of HT_.out (by kernel_rfl)) (fun _ _ _ h => h) (Or.inl ⟨by rfl, ?_⟩) ?_ ?_
    rotate_left
    ·intro w'
     go_simp
     with_reducible rfl
    rotate_left
    ·simp only [Act.put, List.setIfInBounds_toArray, List.set_cons_zero, List.set_cons_succ, i64_w, i32_w]
     rfl
    refine pure_ (i := 2) (N := some 26) (v := ?_) (a' := ?_) #[true, true, true, false, false, false, false, false, false, false, false, false, false, false] rfl rfl (any_of HT_.out (by kernel_rfl)) (fun _ _ _ h => h) (Or.inl ⟨by rfl, ?_⟩) ?_ ?_
    rotate_left
    ·intro w'
     go_simp
     with_reducible rfl
    rotate_left
    ·simp only [Act.put, List.setIfInBounds_toArray, List.set_cons_zero, List.set_cons_succ, i64_w, i32_w]
     rfl
    refine pure_ (i := 3) (N := some 27) (v := ?_) (a' := ?_) #[true, true, true, true, false, false, false, false, false, false, false, false, false, false] rfl rfl (any_of HT_.out (by kernel_rfl)) (fun _ _ _ h => h) (Or.inl ⟨by rfl, ?_⟩) ?_ ?_
    rotate_left
    ·intro w'
     go_simp
     with_reducible rfl
    rotate_left
    ·simp only [Act.put, List.setIfInBounds_toArray, List.set_cons_zero, List.set_cons_succ, i64_w, i32_w]
     rfl
    refine pure_ (i := 5) (N := some 29) (v := ?_) (a' := ?_) #[true, true, true, true, false, true, false, false, false, false, false, false, false, false] rfl rfl (any_of HT_.out (by kernel_rfl)) (fun _ _ _ h => h) (Or.inl ⟨by rfl, ?_⟩) ?_ ?_
    rotate_left
    ·intro w'
     go_simp
     with_reducible rfl
    rotate_left
    ·simp only [Act.put, List.setIfInBounds_toArray, List.set_cons_zero, List.set_cons_succ, i64_w, i32_w]
     rfl
    refine pure_ (i := 6) (N := some 30) (v := ?_) (a' := ?_) #[true, true, true, true, false, true, true, false, false, false, false, false, false, false] rfl rfl (any_of HT_.out (by kernel_rfl)) (fun _ _ _ h => h) (Or.inl ⟨by rfl, ?_⟩) ?_ ?_
    rotate_left
    ·intro w'
     go_simp
     with_reducible rfl
    rotate_left
    ·simp only [Act.put, List.setIfInBounds_toArray, List.set_cons_zero, List.set_cons_succ, i64_w, i32_w]
     rfl
    refine pure_ (i := 7) (N := some 31) (v := ?_) (a' := ?_) #[true, true, true, true, false, true, true, true, false, false, false, false, false, false] rfl rfl (any_of HT_.out (by kernel_rfl)) (fun _ _ _ h => h) (Or.inl ⟨by rfl, ?_⟩) ?_ ?_
    rotate_left
    ·intro w'
     go_simp
     with_reducible rfl
    rotate_left
    ·simp only [Act.put, List.setIfInBounds_toArray, List.set_cons_zero, List.set_cons_succ, i64_w, i32_w]
     rfl
    refine pure_ (i := 8) (N := some 32) (v := ?_) (a' := ?_) #[true, true, true, true, false, true, true, true, true, false, false, false, false, false] rfl rfl (any_of HT_.out (by kernel_rfl)) (fun _ _ _ h => h) (Or.inl ⟨by rfl, ?_⟩) ?_ ?_
    rotate_left
    ·intro w'
     go_simp
     with_reducible rfl
    rotate_left
    ·simp only [Act.put, List.setIfInBounds_toArray, List.set_cons_zero, List.set_cons_succ, i64_w, i32_w]
     rfl
    refine take_ (i := 4) (N := some 28) (v := ?_) (a' := ?_) #[true, true, true, true, true, true, true, true, true, false, false, false, false, false] rfl rfl (take_ofW HT_.out HW_.out (by kernel_rfl)) (fun _ _ _ h => h) (Or.inl ⟨by rfl, ?_⟩) hHeld ?_ ?_
    rotate_left
    ·rintro w' ⟨s0, s1⟩
     go_simp
     with_reducible rfl
    rotate_left
    ·simp only [Act.put, List.setIfInBounds_toArray, List.set_cons_zero, List.set_cons_succ, i64_w, i32_w]
     rfl
    refine take_ (i := 9) (N := some 33) (v := ?_) (a' := ?_) #[true, true, true, true, true, true, true, true, true, true, false, false, false, false] rfl rfl (take_ofW HT_.out HW_.out (by kernel_rfl)) (fun _ _ _ h => h) (Or.inl ⟨by rfl, ?_⟩) hHeld ?_ ?_
    rotate_left
    ·rintro w' ⟨s0, s1⟩
     go_simp
     with_reducible rfl
    rotate_left
    ·simp only [Act.put, List.setIfInBounds_toArray, List.set_cons_zero, List.set_cons_succ, i64_w, i32_w]
     rfl
    refine one_ (i := 10) (N := some 34) #[true, true, true, true, true, true, true, true, true, true, true, false, false, false] rfl rfl (one_of HT_.out (by kernel_rfl)) (by decide) (fun K hK => ?_)
    refine goes_ Try.func66 (by kernel_rfl) rfl #[.int .i64 (rd l0 x8_1), .int .i64 (rd l0 (ji9))] (by rfl) rfl rfl (by (try simp only [List.map_toArray, List.map_cons, List.map_nil]); first | done | (simp only [hji9]; rfl) | rfl | (simp only [List.length_drop, List.length_take]; rfl)) ?_
    with_reducible refine (Zcy.calls (rd l0 x8_1) (rd l0 (ji9)) t349 _ A12.out).mono ?_
    rintro e w15 ⟨rfl, hb⟩
    have HS0_ := (hb.cell (World.block_lt_of_cell? _ _ (hHeld.1))).trans (hHeld.1)
    have HS1_ := (hb.cell (World.block_lt_of_cell? _ _ (hHeld.2))).trans (hHeld.2)
    refine ⟨_, rfl, ?_⟩
    have n0_ := upR HO_0 hb
    have n1_ := upR HO_7 hb
    have n2_ := Aside0.mk (Kept.below (S := (fun k_ => P0_ k_)) (by repeat (first | (with_reducible first | exact HK.out | apply Kept.alloc | apply Kept.drewN | apply Kept.drew) | exact HK.out)) hb)
    have n3_ := upB HB hb
    clear HO_0
    clear HO_7
    clear HK
    clear HB
    have HO_0 := n0_
    have HO_7 := n1_
    have HK := n2_
    have HB := n3_
    clear n0_ n1_ n2_ n3_
    (try clear hb)
    (try clear hb2)
    (try clear hk)
    (try clear hi)
    refine hK.out _ _ ⟨HS0_, HS1_⟩ (fun hHeld => ?_)
    clear hK K
    refine norm_ (a' := ?_) ?_ ?_
    rotate_left
    ·show Act.put _ (some 34) _ = _
     simp only [Act.put, List.setIfInBounds_toArray, List.set_cons_zero, List.set_cons_succ, i64_w, i32_w]
     rfl
    refine last_ (i := 11) (N := some 35) #[true, true, true, true, true, true, true, true, true, true, true, true, false, false] rfl rfl (one_of HT_.out (by kernel_rfl)) (by decide) (fun K hK => ?_)
    refine value_ (w1 := ?_) (v := ?_) (by rfl) rfl ?_ ?_
    rotate_left 2
    ·go_simp
     constructor
     ·rfl
     ·rfl
    refine hK.out _ _ ?_
    clear hK K
    refine norm_ (a' := ?_) ?_ ?_
    rotate_left
    ·show Act.put _ (some 35) _ = _
     simp only [Act.put, List.setIfInBounds_toArray, List.set_cons_zero, List.set_cons_succ, i64_w, i32_w]
     rfl
    refine last_ (i := 12) (N := some 36) #[true, true, true, true, true, true, true, true, true, true, true, true, true, false] rfl rfl (one_of HT_.out (by kernel_rfl)) (by decide) (fun K hK => ?_)
    refine Kd.R_append_step (Kd.int .i64) (w0 := w0) w0.heap.size (by rfl) (.tmp 24) (.tmp 35) 24 3 (.int .i64 0) 8 rfl Try.underlying24 info3 rfl (by decide) (by omega) u7 x7_1 t349 [.int .i64 t349] (fun k_ => (P0_ k_ ∨ w.heap.size ≤ k_) ∧ some k_ ≠ (.slice (some ad346) l0.length co6 : Value).ownBlock) (fun _ => False) rfl rfl ?aP (fun _ hk => hk.elim) ?aF ?aO ?aB ?aS ?aL ?_
    (case aP => exact rfl)
    (case aB => exact (atB HB))
    (case aF => exact (fun k_ hk => ⟨(.inr (Nat.le_trans (by first | exact HK.out.1 | exact (show Kept w _ (fun k_ => P0_ k_) from by repeat (first | (with_reducible first | exact HK.out | apply Kept.alloc | apply Kept.drewN | apply Kept.drew) | exact HK.out)).1) hk)), Kd.fresh' (ltR HO_0) k_ hk⟩))
    (case aO => exact (atR HO_7))
    (case aS => exact (szB HB))
    (case aL => have := LMc13.out; omega)
    intro v351 w16 ho hb hg hat
    rw [← Ny350.out] at ho
    have n0_ := Aside0.mk (Kd.R_after (ok := (fun k_ => (P0_ k_ ∨ w.heap.size ≤ k_))) (atR HO_0) hg hat)
    have n1_ := Aside0.mk (hb)
    have n2_ := Aside0.mk (Kept.of_grown (S := (fun k_ => P0_ k_)) hg (by repeat (first | (with_reducible first | exact HK.out | apply Kept.alloc | apply Kept.drewN | apply Kept.drew) | exact HK.out)) (fun k_ e_ => (HO_7.out.1 k_ e_).1))
    have n3_ := Aside0.mk (ho)
    clear HO_0
    clear HB
    clear HK
    clear HO_7
    have HO_0 := n0_
    have HB := n1_
    have HK := n2_
    have HO352 := n3_
    clear n0_ n1_ n2_ n3_
    clear ho hb hg hat
    refine hK.out _ _ ?_
    clear hK K
    refine norm_ (a' := ?_) ?_ ?_
    rotate_left
    ·show Act.put _ (some 36) _ = _
     simp only [Act.put, List.setIfInBounds_toArray, List.set_cons_zero, List.set_cons_succ, i64_w, i32_w]
     rfl
    refine pure_ (i := 13) (N := some 7) (v := ?_) (a' := ?_) #[true, true, true, true, true, true, true, true, true, true, true, true, true, true] rfl rfl (any_of HT_.out (by kernel_rfl)) (fun _ _ _ h => h) (Or.inl ⟨by rfl, ?_⟩) ?_ ?_
    rotate_left
    ·intro w'
     go_simp
     with_reducible rfl
    rotate_left
    ·simp only [Act.put, List.setIfInBounds_toArray, List.set_cons_zero, List.set_cons_succ, i64_w, i32_w]
     rfl
    refine done_ (done_of HT_.out (by kernel_rfl)) ?_
    try go_wp2
    first | go_roundg k1 | ((try subst hji9); (try subst hji3); go_roundg k1)
    case measure => have := HK1.out; omega
    case rel => exact ⟨(y350), (wrap64 (x8_1 + 1)), eqd, H', ⟨by have := HK1.out; omega⟩, ⟨atR HO_0⟩, ⟨atR HO352⟩, ⟨by repeat (first | (with_reducible first | exact HK.out | apply Kept.alloc | apply Kept.drewN | apply Kept.drew) | exact HK.out)⟩, ⟨atB HB⟩⟩
   ·rw [if_neg c7] at H
    have c7b0 := decide_eq_false c7
    clear c7
    by_cases c17 : (l0.length : Int) = a1
    ·rw [if_pos c17] at H
     have c17b0 : ((l0.length : Int) == a1) = true := beq_iff_eq.mpr c17
     have c17b1 : ((l0.length : Int) != a1) = false := bne_eq_false_iff_eq.mpr c17
     clear c17
     obtain ⟨c18, H⟩ := in0_ H
     have c18b0 := decide_eq_true c18
     have c18b1 : decide (0 < l0.length) = true := decide_eq_true (by omega)
     clear c18
     obtain ⟨c19, H⟩ := in0_ H
     have LMc19 := Aside0.mk c19
     clear c19
     obtain ⟨y354, hy354⟩ : ∃ y_ : List Int, y_ = (x7_1 ++ [wrap64 ((rd l0 (ji3)) - (rd l0 0))]) := ⟨_, rfl⟩
     replace H : ((Zbt.f k1 y354).bind fun t357 => (some (l0, t357))) = some (r1, r2) := by first | (rw [hy354]; with_reducible exact H) | (have H2_ := (Option.bind_some _ _).symm.trans H; rw [hy354]; with_reducible exact H2_) | (have H2_ := (Option.bind_some _ _).symm.trans H; with_reducible exact H2_) | with_reducible exact H | (rw [hy354]; exact H) | exact H
     have Ny354 := Aside0.mk hy354
     clear hy354
     obtain ⟨t357, A20, H⟩ := bs_ H
     (try dsimp only at H)
     simp only [Option.some.injEq, Prod.mk.injEq] at H
     obtain ⟨rfl, rfl⟩ := H
     have p353 : 0 ≤ (0 : Int) := (by omega)
     have q353 : 0 < (l0.length : Int) := ofd
     obtain ⟨ad353, e353, hx353_0⟩ := Kd.at_int (Kd.R_reads' HO_0.out).2.2 0 p353 q353
     obtain rfl : ad346 = ad353 := (by injection e353)
     have qi353 : (0 < l0.length) = True := eq_true (by omega)
     (try rw [show ((0 : Int)).toNat = 0 from rfl] at hx353_0)
     (try rw [Addr.add_zero'] at hx353_0)
     replace p353 := eq_true p353
     replace q353 := eq_true q353
     go_wp2_with (first | ((with_reducible refine gate_builtin (b := .append) (xs := #[.tmp 42, .tmp 48]) rfl ?_); at_builtin; refine Kd.R_append (Kd.int .i64) (w0 := w0) w0.heap.size rfl (.tmp 42) (.tmp 48) 24 3 (.int .i64 0) 8 rfl Try.underlying24 info3 rfl (by decide) (by omega) u7 x7_1 (wrap64 ((rd l0 (ji3)) - (rd l0 0))) [.int .i64 (wrap64 ((rd l0 (ji3)) - (rd l0 0)))] (fun k_ => (P0_ k_ ∨ w.heap.size ≤ k_) ∧ some k_ ≠ (.slice (some ad346) l0.length co6 : Value).ownBlock) (fun _ => False) rfl rfl ?aP (fun _ hk => hk.elim) ?aF ?aO ?aB ?aS ?aL ?_; (case aP => exact rfl); (case aB => exact (atB HB)); (case aF => exact (fun k_ hk => ⟨(.inr (Nat.le_trans (by first | exact HK.out.1 | exact (show Kept w _ (fun k_ => P0_ k_) from by repeat (first | (with_reducible first | exact HK.out | apply Kept.alloc | apply Kept.drewN | apply Kept.drew) | exact HK.out)).1) hk)), Kd.fresh' (ltR HO_0) k_ hk⟩)); (case aO => exact (atR HO_7)); (case aS => exact (szB HB)); (case aL => have := LMc19.out; omega); intro v355 w21 ho hb hg hat; rw [← Ny354.out] at ho; have HO356 := Aside0.mk (ho); replace HO_0 := Aside0.mk (Kd.R_after (ok := (fun k_ => (P0_ k_ ∨ w.heap.size ≤ k_))) (atR HO_0) hg hat); replace HB := Aside0.mk (hb); replace HK := Aside0.mk (Kept.of_grown (S := (fun k_ => P0_ k_)) hg (by repeat (first | (with_reducible first | exact HK.out | apply Kept.alloc | apply Kept.drewN | apply Kept.drew) | exact HK.out)) (fun k_ e_ => (HO_7.out.1 k_ e_).1)); clear HO_7; clear ho hb hg hat; obtain ⟨Ao22, co22, eo22⟩ := Kd.R_slice HO356.out; subst eo22) | ((with_reducible refine gate_callee (f := 40) rfl ?_); refine goesA (some 50) Try.func40 #[.slice Ao22 y354.length co22] ?_; (with_reducible refine (Zbt.calls k1 _ _ y354 t357 _ ?side1 ?side2 A20.out).mono ?_); (case side1 => exact atRC HO356); (case side2 => exact (Kd.R_reads' HO356.out).2.1); rintro e w' ⟨rfl, ⟨nd, rfl⟩⟩; refine ⟨_, rfl, ?_⟩))
     go_ret2
     exact ⟨_, by first | rfl | (simp [errW_none, errW_some] <;> rfl) | (simp only [← hji3]; first | rfl | (simp [errW_none, errW_some] <;> rfl)) | (simp [*, errW_none, errW_some] <;> rfl), by (with_reducible repeat (first | apply Kd.R_alloc | apply Kd.R_drewN | apply Kd.R_drew)); exact Kd.R_mono HO_0.out (fun _ hk => hk.1), atB HB, by repeat (first | (with_reducible first | exact HK.out | apply Kept.alloc | apply Kept.drewN | apply Kept.drew) | exact HK.out)⟩
    ·rw [if_neg c17] at H
     have c17b0 : ((l0.length : Int) == a1) = false := beq_eq_false_iff_ne.mpr c17
     have c17b1 : ((l0.length : Int) != a1) = true := bne_iff_ne.mpr c17
     have H' := Aside0.mk H
     clear H
     go_wp2
     go_loopg [53] k1 (fun kq v53 w' => ∃ (x53_2 : Int), v53 = .int .i64 x53_2 ∧ Aside0 (Zbb.l1 kq l0 a1 (rd l0 (ji3)) x7_1 (wrap64 (a1 + 1)) x53_2 = some (r1, r2)) ∧ Aside0 (kq ≤ k1) ∧ Aside0 (Kd.R (Kd.int .i64) 3 w' w0.heap.size (fun k_ => (P0_ k_ ∨ w.heap.size ≤ k_) ∧ some k_ ≠ (u7 : Value).ownBlock) (.slice (some ad346) l0.length co6) l0) ∧ Aside0 (Kd.R (Kd.int .i64) 3 w' w0.heap.size (fun k_ => (P0_ k_ ∨ w.heap.size ≤ k_) ∧ some k_ ≠ ((.slice (some ad346) l0.length co6) : Value).ownBlock) u7 x7_1) ∧ Aside0 (Kept w w' (fun k_ => P0_ k_)) ∧ Aside0 (Below w0.heap.size w0 w'))
     case atStart => exact ⟨(0), eqd, H', ⟨Nat.le_refl _⟩, ⟨atR HO_0⟩, ⟨atR HO_7⟩, ⟨by repeat (first | (with_reducible first | exact HK.out | apply Kept.alloc | apply Kept.drewN | apply Kept.drew) | exact HK.out)⟩, ⟨atB HB⟩⟩
     case round =>
      clear H'
      try clear c7b0
      try clear c17
      try clear c17b0
      try clear c17b1
      obtain ⟨x53_2, rfl, HA, HK2, HO_0, HO_7, HK, HB⟩ := hrel
      cases gk with
      | zero => exact absurd HA.out (by simp [Zbb.l1])
      | succ k2 =>
       have H := HA.out
       clear HA
       simp only [Zbb.l1] at H
       by_cases c23 : x53_2 < (wrap64 (a1 + 1))
       rotate_left
       ·rw [if_neg c23] at H
        have c23b0 := decide_eq_false c23
        clear c23
        simp only [Option.some.injEq, Prod.mk.injEq] at H
        obtain ⟨rfl, rfl⟩ := H
        go_wp2
        go_ret2
        exact ⟨_, by first | rfl | (simp [errW_none, errW_some] <;> rfl) | (simp only [← hji3]; first | rfl | (simp [errW_none, errW_some] <;> rfl)) | (simp [*, errW_none, errW_some] <;> rfl), by first | exact Kd.R_nil _ _ _ _ _ | exact Kd.N_nil _ _ _ _ _ | exact Kd.V_nil _ _ _ _ _ | exact Kd.Q_nil _ _ _ _ _ | exact Kd.S_nil _ _ _ _ _, atB HB, by repeat (first | (with_reducible first | exact HK.out | apply Kept.alloc | apply Kept.drewN | apply Kept.drew) | exact HK.out)⟩
       rw [if_pos c23] at H
       have c23b0 := decide_eq_true c23
       clear c23
       have HC24 := Aside0.mk H
       clear H
       go_upto_region 12 with (fail)
       go_cut [65] (fun v65 wc => ∃ (kq : Nat) (x65_23 : Bool), v65 = .bool x65_23 ∧ Aside0 (Zbb.j2 kq l0 a1 (rd l0 (ji3)) x7_1 x53_2 (wrap64 (a1 + 1)) x53_2 x65_23 = some (r1, r2)) ∧ Aside0 (kq ≤ k2) ∧ Aside0 (Kd.R (Kd.int .i64) 3 wc w0.heap.size (fun k_ => (P0_ k_ ∨ w.heap.size ≤ k_) ∧ some k_ ≠ (u7 : Value).ownBlock) (.slice (some ad346) l0.length co6) l0) ∧ Aside0 (Kd.R (Kd.int .i64) 3 wc w0.heap.size (fun k_ => (P0_ k_ ∨ w.heap.size ≤ k_) ∧ some k_ ≠ ((.slice (some ad346) l0.length co6) : Value).ownBlock) u7 x7_1) ∧ Aside0 (Kept w wc (fun k_ => P0_ k_)) ∧ Aside0 (Below w0.heap.size w0 wc))
       case first =>
        have H := HC24.out
        clear HC24
        obtain ⟨t358, A25, H⟩ := bs_ H
        (try dsimp only at H)
        by_cases c26 : t358 = true
        rotate_left
        ·replace c26 := Bool.eq_false_iff.mpr c26
         subst c26
         replace H := if_ H
         obtain ⟨t359, A27, H⟩ := bs_ H
         (try dsimp only at H)
         obtain ⟨t360, A28, H⟩ := bs_ H
         (try dsimp only at H)
         have H' := Aside0.mk H
         clear H
         go_wp2_with (first | ((with_reducible refine gate_callee (f := 63) rfl ?_); refine goesA (some 58) Try.func63 #[.slice (some ad346) l0.length co6, .int .i64 x53_2] ?_; (with_reducible refine (Zah.calls k2 _ _ l0 x53_2 false _ ?side1 ?side2 A25.out).mono ?_); (case side1 => exact atRC HO_0); (case side2 => exact (Kd.R_reads' HO_0.out).2.1); rintro e w' ⟨rfl, ⟨nd, rfl⟩⟩; refine ⟨_, rfl, ?_⟩) | (go_at_call 66; (with_reducible refine (Zcy.calls x53_2 (rd l0 (ji3)) t359 _ A27.out).mono ?_); rintro e w29 ⟨rfl, hb⟩; replace HO_0 := upR HO_0 hb; replace HO_7 := upR HO_7 hb; replace HK := Aside0.mk (Kept.below (S := (fun k_ => P0_ k_)) (by repeat (first | (with_reducible first | exact HK.out | apply Kept.alloc | apply Kept.drewN | apply Kept.drew) | exact HK.out)) hb); replace HB := upB HB hb; obtain ⟨Ao30, co30, eo30⟩ := Kd.R_slice HO_7.out; subst eo30) | (go_at_call 63; (with_reducible refine (Zah.calls k2 _ _ x7_1 t359 t360 _ ?side1 ?side2 A28.out).mono ?_); (case side1 => exact atRC HO_7); (case side2 => exact (Kd.R_reads' HO_7.out).2.1); rintro e w' ⟨rfl, ⟨nd, rfl⟩⟩))
         go_meet
         case rel => exact ⟨_, (t360), eqd, H', ⟨by have := HK1.out; have := HK2.out; first | omega | exact Nat.le_refl _⟩, ⟨atR HO_0⟩, ⟨atR HO_7⟩, ⟨by repeat (first | (with_reducible first | exact HK.out | apply Kept.alloc | apply Kept.drewN | apply Kept.drew) | exact HK.out)⟩, ⟨atB HB⟩⟩
        subst c26
        replace H := it_ H
        have H' := Aside0.mk H
        clear H
        go_wp2_with (first | ((with_reducible refine gate_callee (f := 63) rfl ?_); refine goesA (some 58) Try.func63 #[.slice (some ad346) l0.length co6, .int .i64 x53_2] ?_; (with_reducible refine (Zah.calls k2 _ _ l0 x53_2 true _ ?side1 ?side2 A25.out).mono ?_); (case side1 => exact atRC HO_0); (case side2 => exact (Kd.R_reads' HO_0.out).2.1); rintro e w' ⟨rfl, ⟨nd, rfl⟩⟩; refine ⟨_, rfl, ?_⟩))
        go_meet
        case rel => exact ⟨_, (true), eqd, H', ⟨by have := HK1.out; have := HK2.out; first | omega | exact Nat.le_refl _⟩, ⟨atR HO_0⟩, ⟨atR HO_7⟩, ⟨by repeat (first | (with_reducible first | exact HK.out | apply Kept.alloc | apply Kept.drewN | apply Kept.drew) | exact HK.out)⟩, ⟨atB HB⟩⟩
       case rest =>
        clear HC24
        try clear c23b0
        obtain ⟨kq, x65_23, rfl, HA, HJ23, HO_0, HO_7, HK, HB⟩ := hcut
        cases kq with
        | zero => exact absurd HA.out (by simp [Zbb.j2])
        | succ kj23 =>
         have H := HA.out
         clear HA
         simp only [Zbb.j2] at H
         by_cases c31 : x65_23 = true
         ·subst c31
          replace H := it_ H
          have H' := Aside0.mk H
          clear H
          go_wp2
          first | go_roundg kj23 | ((try subst hji3); go_roundg kj23)
          case measure => have := HK1.out; have := HK2.out; have := HJ23.out; omega
          case rel => exact ⟨(wrap64 (x53_2 + 1)), eqd, H', ⟨by have := HK1.out; have := HK2.out; have := HJ23.out; omega⟩, ⟨atR HO_0⟩, ⟨atR HO_7⟩, ⟨by repeat (first | (with_reducible first | exact HK.out | apply Kept.alloc | apply Kept.drewN | apply Kept.drew) | exact HK.out)⟩, ⟨atB HB⟩⟩
         replace c31 := Bool.eq_false_iff.mpr c31
         subst c31
         replace H := if_ H
         obtain ⟨t361, A32, H⟩ := bs_ H
         (try dsimp only at H)
         obtain ⟨c33, H⟩ := in0_ H
         have LMc33 := Aside0.mk c33
         clear c33
         obtain ⟨y364, hy364⟩ : ∃ y_ : List Int, y_ = (t361 ++ [x53_2]) := ⟨_, rfl⟩
         replace H : ((Zbb.f kj23 y364 a1).bind fun bt367 => (if bt367.2 = true then (some (bt367.1, true)) else (Zbb.l1 kj23 l0 a1 (rd l0 (ji3)) x7_1 (wrap64 (a1 + 1)) (wrap64 (x53_2 + 1))))) = some (r1, r2) := by first | (rw [hy364]; with_reducible exact H) | (have H2_ := (Option.bind_some _ _).symm.trans H; rw [hy364]; with_reducible exact H2_) | (have H2_ := (Option.bind_some _ _).symm.trans H; with_reducible exact H2_) | with_reducible exact H | (rw [hy364]; exact H) | exact H
         have Ny364 := Aside0.mk hy364
         clear hy364
         replace H := Option.bind_eq_some_iff.mp H
         obtain ⟨⟨t367, t370⟩, A340, H⟩ := H
         replace H : (if t370 = true then (some (t367, true)) else (Zbb.l1 kj23 l0 a1 (rd l0 (ji3)) x7_1 (wrap64 (a1 + 1)) (wrap64 (x53_2 + 1)))) = some (r1, r2) := H
         have A34 := Aside0.mk A340
         clear A340
         by_cases c35 : t370 = true
         rotate_left
         ·replace c35 := Bool.eq_false_iff.mpr c35
          subst c35
          replace H := if_ H
          have H' := Aside0.mk H
          clear H
          go_wp2_with (first | ((with_reducible refine gate_callee (f := 65) rfl ?_); refine goesA (some 68) Try.func65 #[.slice (some ad346) l0.length co6] ?_; (with_reducible refine (Zck.calls _ _ l0 t361 _ ?side1 ?side2 A32.out).mono ?_); (case side1 => exact atRC HO_0); (case side2 => exact (Kd.R_reads' HO_0.out).2.1); rintro e w40 ⟨v362, rfl, ho0, hb⟩; refine ⟨_, rfl, ?_⟩; have HO363 := Aside0.mk (Kd.R_lower (Kd.R_new' (Kd.R_new' (Kd.R_newM (M := fun k_ => (P0_ k_ ∨ w.heap.size ≤ k_)) ho0 (by first | exact HK.out.1 | exact (show Kept w _ (fun k_ => P0_ k_) from by repeat (first | (with_reducible first | exact HK.out | apply Kept.alloc | apply Kept.drewN | apply Kept.drew) | exact HK.out)).1) (fun k_ h_ => .inr h_)) (ltR HO_0)) (ltR HO_7)) (szB HB)); replace HO_0 := eldRR HO_0 ho0 hb; replace HO_7 := eldRR HO_7 ho0 hb; replace HK := Aside0.mk (Kept.below (S := (fun k_ => P0_ k_)) (by repeat (first | (with_reducible first | exact HK.out | apply Kept.alloc | apply Kept.drewN | apply Kept.drew) | exact HK.out)) hb); replace HB := upB HB hb) | ((with_reducible refine gate_builtin (b := .append) (xs := #[.tmp 68, .tmp 70]) rfl ?_); at_builtin; refine Kd.R_append (Kd.int .i64) (w0 := w0) w0.heap.size rfl (.tmp 68) (.tmp 70) 24 3 (.int .i64 0) 8 rfl Try.underlying24 info3 rfl (by decide) (by omega) v362 t361 x53_2 [.int .i64 x53_2] (fun k_ => (P0_ k_ ∨ w.heap.size ≤ k_) ∧ some k_ ≠ (.slice (some ad346) l0.length co6 : Value).ownBlock ∧ some k_ ≠ (u7 : Value).ownBlock) (fun _ => False) rfl rfl ?aP (fun _ hk => hk.elim) ?aF ?aO ?aB ?aS ?aL ?_; (case aP => exact rfl); (case aB => exact (atB HB)); (case aF => exact (fun k_ hk => ⟨(.inr (Nat.le_trans (by first | exact HK.out.1 | exact (show Kept w _ (fun k_ => P0_ k_) from by repeat (first | (with_reducible first | exact HK.out | apply Kept.alloc | apply Kept.drewN | apply Kept.drew) | exact HK.out)).1) hk)), Kd.fresh' (ltR HO_0) k_ hk, Kd.fresh' (ltR HO_7) k_ hk⟩)); (case aO => exact (by (with_reducible repeat (first | apply Kd.R_alloc | apply Kd.R_drewN | apply Kd.R_drew)); exact Kd.R_mono HO363.out (fun _ hk => ⟨hk.1.1.1, ⟨hk.1.2, hk.2⟩⟩))); (case aS => exact (szB HB)); (case aL => have := LMc33.out; omega); intro v365 w41 ho hb hg hat; rw [← Ny364.out] at ho; have HO366 := Aside0.mk (ho); replace HO_0 := Aside0.mk (Kd.R_after (ok := (fun k_ => (P0_ k_ ∨ w.heap.size ≤ k_) ∧ some k_ ≠ (u7 : Value).ownBlock)) (atR HO_0) hg hat); replace HO_7 := Aside0.mk (Kd.R_after (ok := (fun k_ => (P0_ k_ ∨ w.heap.size ≤ k_) ∧ some k_ ≠ (.slice (some ad346) l0.length co6 : Value).ownBlock)) (atR HO_7) hg hat); replace HB := Aside0.mk (hb); replace HK := Aside0.mk (Kept.of_grown (S := (fun k_ => P0_ k_)) hg (by repeat (first | (with_reducible first | exact HK.out | apply Kept.alloc | apply Kept.drewN | apply Kept.drew) | exact HK.out)) (fun k_ e_ => (HO363.out.1 k_ e_).1.1.1)); clear HO363; clear ho hb hg hat; obtain ⟨Ao42, co42, eo42⟩ := Kd.R_slice HO366.out; subst eo42) | ((with_reducible refine gate_callee (f := 51) rfl ?_); refine goesA (some 73) Try.func51 #[.slice Ao42 y364.length co42, .int .i64 a1] ?_; (with_reducible refine (ih kj23 (by have := HK1.out; have := HK2.out; have := HJ23.out; omega) (fun k_ => some k_ = (.slice Ao42 y364.length co42 : Value).ownBlock) (.slice Ao42 y364.length co42) y364 a1 t367 false w0 _ ?side1 ?side2 A34.out).mono ?_); (case side1 => exact atB HB); (case side2 => exact Kd.R_tight rfl HO366.out); rintro e w43 ⟨v368, rfl, ho0, hb, hkp⟩; refine ⟨_, rfl, ?_⟩; have HO369 := Aside0.mk (Kd.R_mono (ok' := fun k_ => (P0_ k_ ∨ w.heap.size ≤ k_) ∧ some k_ ≠ (.slice (some ad346) l0.length co6 : Value).ownBlock ∧ some k_ ≠ (u7 : Value).ownBlock) ho0 (fun k_ hk_ => ⟨Or.elim hk_ (fun hs_ => (HO366.out.1 k_ (hs_).symm).1) (fun hn_ => (.inr (Nat.le_trans (by first | exact HK.out.1 | exact (show Kept w _ (fun k_ => P0_ k_) from by repeat (first | (with_reducible first | exact HK.out | apply Kept.alloc | apply Kept.drewN | apply Kept.drew) | exact HK.out)).1) hn_))), Or.elim hk_ (fun hs_ => fun e_ => (((HO_0.out).1 k_ e_.symm).2) hs_) (fun hn_ => (Kd.fresh' (ltR HO_0) k_ hn_)), Or.elim hk_ (fun hs_ => fun e_ => (((HO_7.out).1 k_ e_.symm).2) hs_) (fun hn_ => (Kd.fresh' (ltR HO_7) k_ hn_))⟩)); replace HO_0 := Aside0.mk (Kd.R_mono (ok' := fun k_ => (P0_ k_ ∨ w.heap.size ≤ k_) ∧ some k_ ≠ (u7 : Value).ownBlock ∧ some k_ ≠ (v368 : Value).ownBlock) (Kd.R_keptB (HO_0.out) hkp (fun k_ hk_ hs_ => (hk_.2) hs_)) (fun k_ hk_ => ⟨hk_.1.1.1, hk_.1.1.2, fun e_ => Or.elim (ho0.1 k_ e_.symm) (fun hs_ => hk_.2.1 hs_) (fun hn_ => Nat.not_le.2 hk_.2.2 hn_)⟩)); replace HO_7 := Aside0.mk (Kd.R_mono (ok' := fun k_ => (P0_ k_ ∨ w.heap.size ≤ k_) ∧ some k_ ≠ (.slice (some ad346) l0.length co6 : Value).ownBlock ∧ some k_ ≠ (v368 : Value).ownBlock) (Kd.R_keptB (HO_7.out) hkp (fun k_ hk_ hs_ => (hk_.2) hs_)) (fun k_ hk_ => ⟨hk_.1.1.1, hk_.1.1.2, fun e_ => Or.elim (ho0.1 k_ e_.symm) (fun hs_ => hk_.2.1 hs_) (fun hn_ => Nat.not_le.2 hk_.2.2 hn_)⟩)); replace HK := Aside0.mk (Kept.then_ (S := (fun k_ => P0_ k_)) (by repeat (first | (with_reducible first | exact HK.out | apply Kept.alloc | apply Kept.drewN | apply Kept.drew) | exact HK.out)) hkp (fun k_ hs_ => (fun e_ => (HO366.out.1 k_ e_.symm).1) hs_)); replace HB := Aside0.mk (hb); clear HO366; (try clear hkp)))
          first | go_roundg kj23 | ((try subst hji3); go_roundg kj23)
          case measure => have := HK1.out; have := HK2.out; have := HJ23.out; omega
          case rel => exact ⟨(wrap64 (x53_2 + 1)), eqd, H', ⟨by have := HK1.out; have := HK2.out; have := HJ23.out; omega⟩, ⟨by (with_reducible repeat (first | apply Kd.R_alloc | apply Kd.R_drewN | apply Kd.R_drew)); exact Kd.R_mono HO_0.out (fun _ hk => ⟨hk.1, hk.2.1⟩)⟩, ⟨by (with_reducible repeat (first | apply Kd.R_alloc | apply Kd.R_drewN | apply Kd.R_drew)); exact Kd.R_mono HO_7.out (fun _ hk => ⟨hk.1, hk.2.1⟩)⟩, ⟨by repeat (first | (with_reducible first | exact HK.out | apply Kept.alloc | apply Kept.drewN | apply Kept.drew) | exact HK.out)⟩, ⟨atB HB⟩⟩
         subst c35
         replace H := it_ H
         simp only [Option.some.injEq, Prod.mk.injEq] at H
         obtain ⟨rfl, rfl⟩ := H
         go_wp2_with (first | ((with_reducible refine gate_callee (f := 65) rfl ?_); refine goesA (some 68) Try.func65 #[.slice (some ad346) l0.length co6] ?_; (with_reducible refine (Zck.calls _ _ l0 t361 _ ?side1 ?side2 A32.out).mono ?_); (case side1 => exact atRC HO_0); (case side2 => exact (Kd.R_reads' HO_0.out).2.1); rintro e w36 ⟨v362, rfl, ho0, hb⟩; refine ⟨_, rfl, ?_⟩; have HO363 := Aside0.mk (Kd.R_lower (Kd.R_new' (Kd.R_new' (Kd.R_newM (M := fun k_ => (P0_ k_ ∨ w.heap.size ≤ k_)) ho0 (by first | exact HK.out.1 | exact (show Kept w _ (fun k_ => P0_ k_) from by repeat (first | (with_reducible first | exact HK.out | apply Kept.alloc | apply Kept.drewN | apply Kept.drew) | exact HK.out)).1) (fun k_ h_ => .inr h_)) (ltR HO_0)) (ltR HO_7)) (szB HB)); replace HO_0 := eldRR HO_0 ho0 hb; replace HO_7 := eldRR HO_7 ho0 hb; replace HK := Aside0.mk (Kept.below (S := (fun k_ => P0_ k_)) (by repeat (first | (with_reducible first | exact HK.out | apply Kept.alloc | apply Kept.drewN | apply Kept.drew) | exact HK.out)) hb); replace HB := upB HB hb) | ((with_reducible refine gate_builtin (b := .append) (xs := #[.tmp 68, .tmp 70]) rfl ?_); at_builtin; refine Kd.R_append (Kd.int .i64) (w0 := w0) w0.heap.size rfl (.tmp 68) (.tmp 70) 24 3 (.int .i64 0) 8 rfl Try.underlying24 info3 rfl (by decide) (by omega) v362 t361 x53_2 [.int .i64 x53_2] (fun k_ => (P0_ k_ ∨ w.heap.size ≤ k_) ∧ some k_ ≠ (.slice (some ad346) l0.length co6 : Value).ownBlock ∧ some k_ ≠ (u7 : Value).ownBlock) (fun _ => False) rfl rfl ?aP (fun _ hk => hk.elim) ?aF ?aO ?aB ?aS ?aL ?_; (case aP => exact rfl); (case aB => exact (atB HB)); (case aF => exact (fun k_ hk => ⟨(.inr (Nat.le_trans (by first | exact HK.out.1 | exact (show Kept w _ (fun k_ => P0_ k_) from by repeat (first | (with_reducible first | exact HK.out | apply Kept.alloc | apply Kept.drewN | apply Kept.drew) | exact HK.out)).1) hk)), Kd.fresh' (ltR HO_0) k_ hk, Kd.fresh' (ltR HO_7) k_ hk⟩)); (case aO => exact (by (with_reducible repeat (first | apply Kd.R_alloc | apply Kd.R_drewN | apply Kd.R_drew)); exact Kd.R_mono HO363.out (fun _ hk => ⟨hk.1.1.1, ⟨hk.1.2, hk.2⟩⟩))); (case aS => exact (szB HB)); (case aL => have := LMc33.out; omega); intro v365 w37 ho hb hg hat; rw [← Ny364.out] at ho; have HO366 := Aside0.mk (ho); replace HO_0 := Aside0.mk (Kd.R_after (ok := (fun k_ => (P0_ k_ ∨ w.heap.size ≤ k_) ∧ some k_ ≠ (u7 : Value).ownBlock)) (atR HO_0) hg hat); replace HO_7 := Aside0.mk (Kd.R_after (ok := (fun k_ => (P0_ k_ ∨ w.heap.size ≤ k_) ∧ some k_ ≠ (.slice (some ad346) l0.length co6 : Value).ownBlock)) (atR HO_7) hg hat); replace HB := Aside0.mk (hb); replace HK := Aside0.mk (Kept.of_grown (S := (fun k_ => P0_ k_)) hg (by repeat (first | (with_reducible first | exact HK.out | apply Kept.alloc | apply Kept.drewN | apply Kept.drew) | exact HK.out)) (fun k_ e_ => (HO363.out.1 k_ e_).1.1.1)); clear HO363; clear ho hb hg hat; obtain ⟨Ao38, co38, eo38⟩ := Kd.R_slice HO366.out; subst eo38) | ((with_reducible refine gate_callee (f := 51) rfl ?_); refine goesA (some 73) Try.func51 #[.slice Ao38 y364.length co38, .int .i64 a1] ?_; (with_reducible refine (ih kj23 (by have := HK1.out; have := HK2.out; have := HJ23.out; omega) (fun k_ => some k_ = (.slice Ao38 y364.length co38 : Value).ownBlock) (.slice Ao38 y364.length co38) y364 a1 t367 true w0 _ ?side1 ?side2 A34.out).mono ?_); (case side1 => exact atB HB); (case side2 => exact Kd.R_tight rfl HO366.out); rintro e w39 ⟨v368, rfl, ho0, hb, hkp⟩; refine ⟨_, rfl, ?_⟩; have HO369 := Aside0.mk (Kd.R_mono (ok' := fun k_ => (P0_ k_ ∨ w.heap.size ≤ k_) ∧ some k_ ≠ (.slice (some ad346) l0.length co6 : Value).ownBlock ∧ some k_ ≠ (u7 : Value).ownBlock) ho0 (fun k_ hk_ => ⟨Or.elim hk_ (fun hs_ => (HO366.out.1 k_ (hs_).symm).1) (fun hn_ => (.inr (Nat.le_trans (by first | exact HK.out.1 | exact (show Kept w _ (fun k_ => P0_ k_) from by repeat (first | (with_reducible first | exact HK.out | apply Kept.alloc | apply Kept.drewN | apply Kept.drew) | exact HK.out)).1) hn_))), Or.elim hk_ (fun hs_ => fun e_ => (((HO_0.out).1 k_ e_.symm).2) hs_) (fun hn_ => (Kd.fresh' (ltR HO_0) k_ hn_)), Or.elim hk_ (fun hs_ => fun e_ => (((HO_7.out).1 k_ e_.symm).2) hs_) (fun hn_ => (Kd.fresh' (ltR HO_7) k_ hn_))⟩)); replace HO_0 := Aside0.mk (Kd.R_mono (ok' := fun k_ => (P0_ k_ ∨ w.heap.size ≤ k_) ∧ some k_ ≠ (u7 : Value).ownBlock ∧ some k_ ≠ (v368 : Value).ownBlock) (Kd.R_keptB (HO_0.out) hkp (fun k_ hk_ hs_ => (hk_.2) hs_)) (fun k_ hk_ => ⟨hk_.1.1.1, hk_.1.1.2, fun e_ => Or.elim (ho0.1 k_ e_.symm) (fun hs_ => hk_.2.1 hs_) (fun hn_ => Nat.not_le.2 hk_.2.2 hn_)⟩)); replace HO_7 := Aside0.mk (Kd.R_mono (ok' := fun k_ => (P0_ k_ ∨ w.heap.size ≤ k_) ∧ some k_ ≠ (.slice (some ad346) l0.length co6 : Value).ownBlock ∧ some k_ ≠ (v368 : Value).ownBlock) (Kd.R_keptB (HO_7.out) hkp (fun k_ hk_ hs_ => (hk_.2) hs_)) (fun k_ hk_ => ⟨hk_.1.1.1, hk_.1.1.2, fun e_ => Or.elim (ho0.1 k_ e_.symm) (fun hs_ => hk_.2.1 hs_) (fun hn_ => Nat.not_le.2 hk_.2.2 hn_)⟩)); replace HK := Aside0.mk (Kept.then_ (S := (fun k_ => P0_ k_)) (by repeat (first | (with_reducible first | exact HK.out | apply Kept.alloc | apply Kept.drewN | apply Kept.drew) | exact HK.out)) hkp (fun k_ hs_ => (fun e_ => (HO366.out.1 k_ e_.symm).1) hs_)); replace HB := Aside0.mk (hb); clear HO366; (try clear hkp)))
         go_ret2
         exact ⟨_, by first | rfl | (simp [errW_none, errW_some] <;> rfl) | (simp only [← hji3]; first | rfl | (simp [errW_none, errW_some] <;> rfl)) | (simp [*, errW_none, errW_some] <;> rfl), by (with_reducible repeat (first | apply Kd.R_alloc | apply Kd.R_drewN | apply Kd.R_drew)); exact Kd.R_mono HO369.out (fun _ hk => hk.1), atB HB, by repeat (first | (with_reducible first | exact HK.out | apply Kept.alloc | apply Kept.drewN | apply Kept.drew) | exact HK.out)⟩
def Zbp.j0 : Nat → Int → Bool → Option (List Int × Bool)
 | 0, _, _ => none
 | k + 1, x0, x11 => if x11 = true then (some (([] : List Int), false)) else ((Zbb.f k (([0] : List Int)) x0).bind fun bt374 => (if bt374.2 = true then (some (bt374.1, true)) else (some (([] : List Int), false))))
def Zbp.f (k : Nat) (a0 : Int) : Option (List Int × Bool) := if a0 < 3 then (Zbp.j0 k a0 true) else (Zbp.j0 k a0 (decide (a0 > 8)))
theorem Zbp.mono_l : ∀ k, (∀ y0 y1, LeO (Zbp.j0 k y0 y1) (Zbp.j0 (k + 1) y0 y1))
 | 0 => fun _ _ r h => by simp [Zbp.j0] at h
 | k + 1 => by
  have ih0 := Zbp.mono_l k
  ·intro y0 y1
   unfold Zbp.j0
   repeat' (first | (with_reducible first | exact Zbb.mono _ _ _ | exact LeO.refl _ | exact LeO.none _ | refine LeO.ite ?_ ?_ | refine LeO.bind ?_ (fun _ => ?_)) | exact Zbb.mono _ _ _ | exact LeO.none _ | refine LeO.ite ?_ ?_ | refine LeO.bind ?_ (fun _ => ?_))
theorem Zbp.mono : ∀ a0 k, LeO (Zbp.f k a0) (Zbp.f (k + 1) a0) := by
 intro a0 k
 have ih0 := Zbp.mono_l k
 unfold Zbp.f
 repeat' (first | (with_reducible first | exact ih0 _ _ | exact LeO.refl _ | exact LeO.none _ | refine LeO.ite ?_ ?_ | refine LeO.bind ?_ (fun _ => ?_)) | exact ih0 _ _ | exact LeO.none _ | refine LeO.ite ?_ ?_ | refine LeO.bind ?_ (fun _ => ?_))
theorem Zbp.calls (k : Nat) (a0 : Int) (r1 : List Int) (r2 : Bool) (w : World) (h : Zbp.f k a0 = some (r1, r2)) :
  Calls Try.prog 24 #[.int .i64 a0] w fun e w' => ∃ v0_ : Value, e = .returned (.tuple #[v0_, .bool r2]) ∧ Kd.R (Kd.int .i64) 3 w' w.heap.size (fun _ => True) v0_ r1 ∧ Below w.heap.size w w' := by
 have HB := Aside0.mk (Below.refl w.heap.size w)
 have H := h
 unfold Zbp.f at H
 clear h
 have HC2 := Aside0.mk H
 clear H
 go_enter Try.func24, Try.ntmps24
 go_upto_region 1 with (fail)
 go_cut [11] (fun v11 wc => ∃ (kq : Nat) (x11_1 : Bool), v11 = .bool x11_1 ∧ Aside0 (Zbp.j0 kq a0 x11_1 = some (r1, r2)) ∧ Aside0 (kq ≤ k) ∧ Aside0 (Below w.heap.size w wc))
 case first =>
  have H := HC2.out
  clear HC2
  by_cases c3 : a0 < 3
  rotate_left
  ·rw [if_neg c3] at H
   have c3b0 := decide_eq_false c3
   clear c3
   (first | rw [c3b0] | (simp only [i64_w, i32_w]; rw [c3b0]) | skip)
   have H' := Aside0.mk H
   clear H
   go_wp2
   go_meet
   case rel => exact ⟨_, (decide (a0 > 8)), eqd, H', ⟨leD⟩, ⟨atB HB⟩⟩
  rw [if_pos c3] at H
  have c3b0 := decide_eq_true c3
  clear c3
  (first | rw [c3b0] | (simp only [i64_w, i32_w]; rw [c3b0]) | skip)
  have H' := Aside0.mk H
  clear H
  go_wp2
  go_meet
  case rel => exact ⟨_, (true), eqd, H', ⟨leD⟩, ⟨atB HB⟩⟩
 case rest =>
  clear HC2
  obtain ⟨kq, x11_1, rfl, HA, HJ1, HB⟩ := hcut
  cases kq with
  | zero => exact absurd HA.out (by simp [Zbp.j0])
  | succ kj1 =>
   have H := HA.out
   clear HA
   simp only [Zbp.j0] at H
   by_cases c4 : x11_1 = true
   ·subst c4
    replace H := it_ H
    simp only [Option.some.injEq, Prod.mk.injEq] at H
    obtain ⟨rfl, rfl⟩ := H
    go_wp2
    go_ret2
    exact ⟨_, eqr, by first | exact Kd.R_nil _ _ _ _ _ | exact Kd.N_nil _ _ _ _ _ | exact Kd.V_nil _ _ _ _ _ | exact Kd.Q_nil _ _ _ _ _ | exact Kd.S_nil _ _ _ _ _, atB HB⟩
   replace c4 := Bool.eq_false_iff.mpr c4
   subst c4
   replace H := if_ H
   obtain ⟨y371, hy371⟩ : ∃ y_ : List Int, y_ = (([0] : List Int)) := ⟨_, rfl⟩
   replace H : ((Zbb.f kj1 y371 a0).bind fun bt374 => (if bt374.2 = true then (some (bt374.1, true)) else (some (([] : List Int), false)))) = some (r1, r2) := by first | (rw [hy371]; with_reducible exact H) | (have H2_ := (Option.bind_some _ _).symm.trans H; rw [hy371]; with_reducible exact H2_) | (have H2_ := (Option.bind_some _ _).symm.trans H; with_reducible exact H2_) | with_reducible exact H | (rw [hy371]; exact H) | exact H
   have Ny371 := Aside0.mk hy371
   clear hy371
   replace H := Option.bind_eq_some_iff.mp H
   obtain ⟨⟨t374, t377⟩, A50, H⟩ := H
   replace H : (if t377 = true then (some (t374, true)) else (some (([] : List Int), false))) = some (r1, r2) := H
   have A5 := Aside0.mk A50
   clear A50
   by_cases c6 : t377 = true
   rotate_left
   ·replace c6 := Bool.eq_false_iff.mpr c6
    subst c6
    replace H := if_ H
    simp only [Option.some.injEq, Prod.mk.injEq] at H
    obtain ⟨rfl, rfl⟩ := H
    go_wp2_with (first | ((with_reducible refine gate_dst (N := 13) rfl ?_); refine Kd.R_lit (Kd.int .i64) _ 3 ?hg (N := 13) ?hd (xs := ([0] : List Int)) (inner := [.int .i64 0]) (ok := fun _ => True) (okp := fun _ => True) ?hr ?hp (fun _ hk => hk) trivial (Below.refl _ _) (Nat.le_refl _) (by simp) ?_; (case hd => rfl); (case hg => rfl); (case hr => first | (go_simp; done) | (go_simp; rfl)); (case hp => exact repsI _); intro v372 w11 ho12 hb hg_ hnew_; clear hg_ hnew_; (first | rw [← Ny371.out] at ho12 | (simp only [Int.reduceToNat] at ho12; rw [← Ny371.out] at ho12)); have HO373 := lowR ho12 HB; replace HB := upB HB hb; clear hb ho12; obtain ⟨Ao13, co13, eo13⟩ := Kd.R_slice HO373.out; subst eo13) | ((with_reducible refine gate_callee (f := 51) rfl ?_); refine goesA (some 15) Try.func51 #[.slice Ao13 y371.length co13, .int .i64 a0] ?_; (with_reducible refine (Zbb.calls kj1 (fun k_ => some k_ = (.slice Ao13 y371.length co13 : Value).ownBlock) (.slice Ao13 y371.length co13) y371 a0 t374 false w _ ?side1 ?side2 A5.out).mono ?_); (case side1 => exact atB HB); (case side2 => exact Kd.R_tight rfl HO373.out); rintro e w14 ⟨v375, rfl, ho0, hb, hkp⟩; refine ⟨_, rfl, ?_⟩; have HO376 := Aside0.mk (Kd.R_mono (ok' := fun k_ => True) ho0 (fun k_ hk_ => trivial)); replace HB := Aside0.mk (hb); clear HO373; (try clear hkp)))
    go_ret2
    exact ⟨_, eqr, by first | exact Kd.R_nil _ _ _ _ _ | exact Kd.N_nil _ _ _ _ _ | exact Kd.V_nil _ _ _ _ _ | exact Kd.Q_nil _ _ _ _ _ | exact Kd.S_nil _ _ _ _ _, atB HB⟩
   subst c6
   replace H := it_ H
   simp only [Option.some.injEq, Prod.mk.injEq] at H
   obtain ⟨rfl, rfl⟩ := H
   go_wp2_with (first | ((with_reducible refine gate_dst (N := 13) rfl ?_); refine Kd.R_lit (Kd.int .i64) _ 3 ?hg (N := 13) ?hd (xs := ([0] : List Int)) (inner := [.int .i64 0]) (ok := fun _ => True) (okp := fun _ => True) ?hr ?hp (fun _ hk => hk) trivial (Below.refl _ _) (Nat.le_refl _) (by simp) ?_; (case hd => rfl); (case hg => rfl); (case hr => first | (go_simp; done) | (go_simp; rfl)); (case hp => exact repsI _); intro v372 w7 ho8 hb hg_ hnew_; clear hg_ hnew_; (first | rw [← Ny371.out] at ho8 | (simp only [Int.reduceToNat] at ho8; rw [← Ny371.out] at ho8)); have HO373 := lowR ho8 HB; replace HB := upB HB hb; clear hb ho8; obtain ⟨Ao9, co9, eo9⟩ := Kd.R_slice HO373.out; subst eo9) | ((with_reducible refine gate_callee (f := 51) rfl ?_); refine goesA (some 15) Try.func51 #[.slice Ao9 y371.length co9, .int .i64 a0] ?_; (with_reducible refine (Zbb.calls kj1 (fun k_ => some k_ = (.slice Ao9 y371.length co9 : Value).ownBlock) (.slice Ao9 y371.length co9) y371 a0 t374 true w _ ?side1 ?side2 A5.out).mono ?_); (case side1 => exact atB HB); (case side2 => exact Kd.R_tight rfl HO373.out); rintro e w10 ⟨v375, rfl, ho0, hb, hkp⟩; refine ⟨_, rfl, ?_⟩; have HO376 := Aside0.mk (Kd.R_mono (ok' := fun k_ => True) ho0 (fun k_ hk_ => trivial)); replace HB := Aside0.mk (hb); clear HO373; (try clear hkp)))
   go_ret2
   exact ⟨_, eqr, atR HO376, atB HB⟩
noncomputable def Zbp.F (a0 : Int) : Option (List Int × Bool) := lim fun k => Zbp.f k a0
theorem Zbp.F_lim (a0 : Int) : Lim (fun k => Zbp.f k a0) (Zbp.F a0) := Lim.of fun k => Zbp.mono a0 k
def Zcl.f (a0 : Int) : Option (Bool × Bool) := if a0 < 3 then (some (false, false)) else (if a0 > 1000 then (some (false, false)) else (if (Int.tmod a0 4) = 0 then (some (true, true)) else (some (((Int.tmod a0 4) == 3), true))))
theorem Zcl.calls (a0 : Int) (r1 : Bool) (r2 : Bool) (w : World) (h : Zcl.f a0 = some (r1, r2)) :
  Calls Try.prog 26 #[.int .i64 a0] w fun e w' => e = .returned (.tuple #[.bool r1, .bool r2]) ∧ Drawn0 w w' := by
 have H := h
 unfold Zcl.f at H
 clear h
 by_cases c2 : a0 < 3
 ·rw [if_pos c2] at H
  have c2b0 := decide_eq_true c2
  clear c2
  simp only [Option.some.injEq, Prod.mk.injEq] at H
  obtain ⟨rfl, rfl⟩ := H
  go_enter Try.func26, Try.ntmps26
  go_wp2
  go_ret2
  exact ⟨by first | rfl | (simp; done) | (simp [*]; done), by repeat (first | exact Drawn0.refl _ | apply Drawn0.step)⟩
 rw [if_neg c2] at H
 have c2b0 := decide_eq_false c2
 clear c2
 by_cases c3 : a0 > 1000
 ·rw [if_pos c3] at H
  have c3b0 := decide_eq_true c3
  clear c3
  simp only [Option.some.injEq, Prod.mk.injEq] at H
  obtain ⟨rfl, rfl⟩ := H
  go_enter Try.func26, Try.ntmps26
  go_wp2
  go_ret2
  exact ⟨by first | rfl | (simp; done) | (simp [*]; done), by repeat (first | exact Drawn0.refl _ | apply Drawn0.step)⟩
 rw [if_neg c3] at H
 have c3b0 := decide_eq_false c3
 clear c3
 by_cases c4 : (Int.tmod a0 4) = 0
 rotate_left
 ·rw [if_neg c4] at H
  have c4b0 : ((Int.tmod a0 4) == 0) = false := beq_eq_false_iff_ne.mpr c4
  have c4b1 : ((Int.tmod a0 4) != 0) = true := bne_iff_ne.mpr c4
  simp only [Option.some.injEq, Prod.mk.injEq] at H
  obtain ⟨rfl, rfl⟩ := H
  go_enter Try.func26, Try.ntmps26
  go_wp2
  go_ret2
  exact ⟨by first | rfl | (simp; done) | (simp [*]; done), by repeat (first | exact Drawn0.refl _ | apply Drawn0.step)⟩
 rw [if_pos c4] at H
 have c4b0 : ((Int.tmod a0 4) == 0) = true := beq_iff_eq.mpr c4
 have c4b1 : ((Int.tmod a0 4) != 0) = false := bne_eq_false_iff_eq.mpr c4
 clear c4
 simp only [Option.some.injEq, Prod.mk.injEq] at H
 obtain ⟨rfl, rfl⟩ := H
 go_enter Try.func26, Try.ntmps26
 go_wp2
 go_ret2
 exact ⟨by first | rfl | (simp; done) | (simp [*]; done), by repeat (first | exact Drawn0.refl _ | apply Drawn0.step)⟩
def Zcq.f (l0 : List Int) : Option (Int) := (Zac.f l0 0 0 8).bind fun bt343 => (some (wrap64 (2 + bt343.1)))
theorem Zcq.calls (A0 : Option Addr) (c0 : Nat) (l0 : List Int) (r : Int) (w : World) (hr0 : Kd.C (Kd.int .u8) w A0 l0.length l0) (hc0 : l0.length ≤ c0) (h : Zcq.f l0 = some r) :
  Calls Try.prog 23 #[.slice A0 l0.length c0] w fun e w' => e = .returned (.int .i64 r) ∧ Below w.heap.size w w' := by
 have hu48 := Try.underlying48
 have HR0 := Aside0.mk hr0
 have HC0 := Aside0.mk hc0
 clear hr0 hc0
 have HB := Aside0.mk (Below.refl w.heap.size w)
 have H := h
 unfold Zcq.f at H
 clear h
 replace H := Option.bind_eq_some_iff.mp H
 obtain ⟨⟨t343, t344, t345⟩, A20, H⟩ := H
 replace H : (some (wrap64 (2 + t343))) = some r := H
 have A2 := Aside0.mk A20
 clear A20
 obtain rfl := Option.some.inj H
 go_enter Try.func23, Try.ntmps23
 go_wp2_with (first | ((with_reducible refine gate_dst (N := 6) rfl ?_); refine box_event ?hg (N := 6) ?hd (cs := #[.slice A0 l0.length c0, .int .i64 0, .int .u64 0]) (t := 48) ?hr ?_; (case hd => rfl); (case hg => rfl); (case hr => first | (go_simp; done) | (go_simp; rfl)); intro gb342 hg w3 hbox hb; have HI342 := Aside0.mk ((⟨_, _, hbox, (by rw [hg]; exact (szB HB) : w.heap.size ≤ gb342), HR0.out⟩ : IsS48 w w3 gb342 l0 0 0)); replace HB := upB HB hb; clear hb hbox hg) | ((with_reducible refine gate_callee (f := 42) rfl ?_); refine goesA (some 8) Try.func42 #[.pointer (some ⟨gb342, 0, none⟩), .int .i64 8] ?_; (with_reducible refine (Zac.calls gb342 l0 0 0 8 t343 t344 t345 w _ ?side1 ?side2 A2.out).mono ?_); (case side1 => exact IsS48.at HI342); (case side2 => exact atB HB); rintro e w4 ⟨rfl, hi, hb, hk⟩; refine ⟨_, rfl, ?_⟩; replace HB := Aside0.mk (hb); replace HI342 := Aside0.mk (hi)))
 go_ret
 exact ⟨eqr, atB HB⟩
def Zdc.f (a0 : Int) (a1 : Int) : Option (Int) := if a0 > a1 then (some a0) else (some a1)
theorem Zdc.calls (a0 : Int) (a1 : Int) (r : Int) (w : World) (h : Zdc.f a0 a1 = some r) :
  Calls Try.prog 79 #[.int .i64 a0, .int .i64 a1] w fun e w' => e = .returned (.int .i64 r) ∧ Drawn0 w w' := by
 have H := h
 unfold Zdc.f at H
 clear h
 by_cases c3 : a0 > a1
 rotate_left
 ·rw [if_neg c3] at H
  have c3b0 := decide_eq_false c3
  clear c3
  obtain rfl := Option.some.inj H
  go_enter Try.func79, Try.ntmps79
  go_wp2
  go_ret
  exact ⟨by first | rfl | (simp; done) | (simp [*]; done), by repeat (first | exact Drawn0.refl _ | apply Drawn0.step)⟩
 rw [if_pos c3] at H
 have c3b0 := decide_eq_true c3
 clear c3
 obtain rfl := Option.some.inj H
 go_enter Try.func79, Try.ntmps79
 go_wp2
 go_ret
 exact ⟨by first | rfl | (simp; done) | (simp [*]; done), by repeat (first | exact Drawn0.refl _ | apply Drawn0.step)⟩
def Zdb.f (a0 : Int) : Option (Int) := (Zdc.f a0 (wrap64 (-a0))).bind fun t378 => (some t378)
theorem Zdb.calls (a0 : Int) (r : Int) (w : World) (h : Zdb.f a0 = some r) :
  Calls Try.prog 67 #[.int .i64 a0] w fun e w' => e = .returned (.int .i64 r) ∧ Drawn0 w w' := by
 have H := h
 unfold Zdb.f at H
 clear h
 obtain ⟨t378, A2, H⟩ := bs_ H
 (try dsimp only at H)
 obtain rfl := Option.some.inj H
 go_enter Try.func67, Try.ntmps67
 go_wp2_with (first | ((with_reducible refine gate_callee (f := 79) rfl ?_); refine goesA (some 6) Try.func79 #[.int .i64 a0, .int .i64 (wrap64 (-a0))] ?_; (with_reducible refine (Zdc.calls a0 (wrap64 (-a0)) t378 _ A2.out).mono ?_); rintro e w' ⟨rfl, ⟨nd, rfl⟩⟩; refine ⟨_, rfl, ?_⟩))
 go_ret
 exact ⟨by first | rfl | (simp; done) | (simp [*]; done), by repeat (first | exact Drawn0.refl _ | apply Drawn0.step)⟩
mutual
def Zan.l0 : Nat → Int → List Int → Int → Int → Option (List Int × Bool)
 | 0, _, _, _, _ => none
 | k + 1, x0, x1, x2, x9 => if x9 ≤ x0 then (if 0 ≤ (wrap64 ((x1.length : Int) - 1)) then (if (wrap64 ((x1.length : Int) - 1)) < (x1.length : Int) then ((Zdb.f (wrap64 (x9 - (rd x1 (wrap64 ((x1.length : Int) - 1)))))).bind fun t390 => ((Zaz.f k x1 x9).bind fun t391 => (if t391 = true then (Zan.j1 k x0 x1 x2 x9 t390 true) else (if 0 ≤ t390 then (Zan.j1 k x0 x1 x2 x9 t390 ((Int.tmod (shr .i64 x2 t390) 2) == 1)) else (none))))) else (none)) else (none)) else (some (([] : List Int), false))
def Zan.j1 : Nat → Int → List Int → Int → Int → Int → Bool → Option (List Int × Bool)
 | 0, _, _, _, _, _, _ => none
 | k + 1, x0, x1, x2, x9, x10, x56 => if x56 = true then (Zan.l0 k x0 x1 x2 (wrap64 (x9 + 1))) else ((Zcf.f x1).bind fun t392 => ((some (([x9] : List Int) : List Int)).bind fun y395 => (if t392.length + y395.length < 17592186044416 then (if 0 ≤ x10 then ((Zan.f k x0 (t392 ++ y395) (Go.bits .or .i64 x2 (shl .i64 1 x10))).bind fun bt401 => (if bt401.2 = true then (some (bt401.1, true)) else (Zan.l0 k x0 x1 x2 (wrap64 (x9 + 1))))) else (none)) else (none))))
def Zan.f : Nat → Int → List Int → Int → Option (List Int × Bool)
 | 0, _, _, _ => none
 | k + 1, a0, l1, a2 => if (l1.length : Int) = a0 then (if 0 ≤ (wrap64 (a0 - 1)) then (if (wrap64 (a0 - 1)) < (l1.length : Int) then (if 0 < (l1.length : Int) then ((Zdb.f (wrap64 ((rd l1 (wrap64 (a0 - 1))) - (rd l1 0)))).bind fun t388 => (if 0 ≤ t388 then (some (l1, ((Int.tmod (shr .i64 a2 t388) 2) == 0))) else (none))) else (none)) else (none)) else (none)) else (Zan.l0 k a0 l1 a2 0)
end
theorem Zan.mono_l : ∀ k, (∀ y0 y1 y2, LeO (Zan.f k y0 y1 y2) (Zan.f (k + 1) y0 y1 y2)) ∧ (∀ y0 y1 y2 y3, LeO (Zan.l0 k y0 y1 y2 y3) (Zan.l0 (k + 1) y0 y1 y2 y3)) ∧ (∀ y0 y1 y2 y3 y4 y5, LeO (Zan.j1 k y0 y1 y2 y3 y4 y5) (Zan.j1 (k + 1) y0 y1 y2 y3 y4 y5))
 | 0 => ⟨fun _ _ _ r h => by simp [Zan.f] at h, fun _ _ _ _ r h => by simp [Zan.l0] at h, fun _ _ _ _ _ _ r h => by simp [Zan.j1] at h⟩
 | k + 1 => by
  obtain ⟨ih0, ih1, ih2⟩ := Zan.mono_l k
  refine ⟨?_, ?_, ?_⟩
  ·intro y0 y1 y2
   unfold Zan.f
   repeat' (first | (with_reducible first | exact ih1 _ _ _ _ | exact LeO.refl _ | exact LeO.none _ | refine LeO.ite ?_ ?_ | refine LeO.bind ?_ (fun _ => ?_)) | exact ih1 _ _ _ _ | exact LeO.none _ | refine LeO.ite ?_ ?_ | refine LeO.bind ?_ (fun _ => ?_))
  ·intro y0 y1 y2 y3
   unfold Zan.l0
   repeat' (first | (with_reducible first | exact ih2 _ _ _ _ _ _ | exact Zaz.mono _ _ _ | exact LeO.refl _ | exact LeO.none _ | refine LeO.ite ?_ ?_ | refine LeO.bind ?_ (fun _ => ?_)) | exact ih2 _ _ _ _ _ _ | exact Zaz.mono _ _ _ | exact LeO.none _ | refine LeO.ite ?_ ?_ | refine LeO.bind ?_ (fun _ => ?_))
  ·intro y0 y1 y2 y3 y4 y5
   unfold Zan.j1
   repeat' (first | (with_reducible first | exact ih0 _ _ _ | exact ih1 _ _ _ _ | exact LeO.refl _ | exact LeO.none _ | refine LeO.ite ?_ ?_ | refine LeO.bind ?_ (fun _ => ?_)) | exact ih0 _ _ _ | exact ih1 _ _ _ _ | exact LeO.none _ | refine LeO.ite ?_ ?_ | refine LeO.bind ?_ (fun _ => ?_))
theorem Zan.mono : ∀ a0 a1 a2 k, LeO (Zan.f k a0 a1 a2) (Zan.f (k + 1) a0 a1 a2) := by
 intro a0 a1 a2 k
 obtain ⟨ih0, ih1, ih2⟩ := Zan.mono_l k
 exact ih0 a0 a1 a2
def Zan.T2 : Bool × List (List Nat × List Nat) := (true, [([], []), ([], []), ([1], [1]), ([0, 2], [0, 2]), ([3], [3]), ([], []), ([5], [5]), ([6], [6]), ([4, 7], [4, 7]), ([8], [8]), ([9, 9, 0, 1, 2, 3, 4, 5, 6, 7, 8, 9], [9])])
def Zan.B2 : List Nat := [0, 0, 2, 7, 15, 0, 32, 96, 255, 511, 1023]
theorem Zan.tab2 : rtab .any (opsOf Try.f52 2) = Zan.T2 := by kernel_rfl
theorem Zan.bits2 : waitsOk Zan.T2.2 Zan.B2 = true := by kernel_rfl
def Zan.T3 : Bool × List (List Nat × List Nat) := (true, [([], []), ([], []), ([], []), ([1, 2], [1, 2]), ([3], [3]), ([4], [4]), ([0, 0], [0]), ([5, 6, 0, 1, 2, 3, 4, 5, 6], [5])])
def Zan.B3 : List Nat := [0, 0, 0, 6, 14, 30, 1, 127]
theorem Zan.tab3 : rtab .any (opsOf Try.f52 3) = Zan.T3 := by kernel_rfl
theorem Zan.bits3 : waitsOk Zan.T3.2 Zan.B3 = true := by kernel_rfl
def Zan.T9 : Bool × List (List Nat × List Nat) := (true, [([], []), ([], []), ([1], [1]), ([], []), ([3], [3]), ([2, 4, 2], [2, 4]), ([], []), ([], []), ([7], [7]), ([6, 8], [6, 8]), ([0, 5, 9, 5], [0, 5, 9]), ([10], [10]), ([11], [11]), ([11], [11]), ([12, 10, 0, 1, 2, 3, 4, 5, 6, 7, 8, 9, 10, 11, 12], [12]), ([13, 14, 0, 1, 2, 3, 4, 5, 6, 7, 8, 9, 10, 11, 12, 13, 14], [13])])
def Zan.B9 : List Nat := [0, 0, 2, 0, 8, 30, 0, 0, 128, 448, 1023, 2047, 4095, 4095, 8191, 32767]
theorem Zan.tab9 : rtab .any (opsOf Try.f52 9) = Zan.T9 := by kernel_rfl
theorem Zan.bits9 : waitsOk Zan.T9.2 Zan.B9 = true := by kernel_rfl
theorem Zan.calls (k : Nat) : ∀ (a0 : Int) (P1_ : Nat → Prop) (u9000_ : Value) (l1 : List Int) (a2 : Int) (r1 : List Int) (r2 : Bool) (w0 w : World) (hB : Below w0.heap.size w0 w) (ho1 : Kd.R (Kd.int .i64) 3 w w0.heap.size P1_ u9000_ l1) (h : Zan.f k a0 l1 a2 = some (r1, r2)),
  Calls Try.prog 52 #[.int .i64 a0, u9000_, .int .i64 a2] w fun e w' => ∃ v0_ : Value, e = .returned (.tuple #[v0_, .bool r2]) ∧ Kd.R (Kd.int .i64) 3 w' w0.heap.size (fun k_ => (P1_ k_ ∨ w.heap.size ≤ k_)) v0_ r1 ∧ Below w0.heap.size w0 w' ∧ Kept w w' (fun k_ => P1_ k_) := by
 induction k using Nat.strongRecOn with
 | _ k ih =>
 intro a0 P1_ u9000_ l1 a2 r1 r2 w0 w hB ho1 h
 cases k with
 | zero => exact absurd h (by simp [Zan.f])
 | succ k =>
 simp only [Zan.f] at h
 have HO1 := Aside0.mk (show Kd.R (Kd.int .i64) 3 w w0.heap.size (fun k_ => (P1_ k_ ∨ w.heap.size ≤ k_)) u9000_ l1 from Kd.R_mono ho1 (fun k_ hk => (.inl hk)))
 have HK := Aside0.mk (Kept.refl w (fun k_ => P1_ k_))
 have HW0 := Aside0.mk hB.size
 have HB := Aside0.mk hB
 clear hB
 have H := h
 unfold Zan.f at H
 clear h
 by_cases c4 : (l1.length : Int) = a0
 ·rw [if_pos c4] at H
  have c4b0 : ((l1.length : Int) == a0) = true := beq_iff_eq.mpr c4
  have c4b1 : ((l1.length : Int) != a0) = false := bne_eq_false_iff_eq.mpr c4
  clear c4
  obtain ⟨ji5, hji5⟩ : ∃ j_ : Int, (wrap64 (a0 - 1)) = j_ := ⟨_, rfl⟩
  replace H : (if 0 ≤ (ji5) then (if (ji5) < (l1.length : Int) then (if 0 < (l1.length : Int) then ((Zdb.f (wrap64 ((rd l1 (ji5)) - (rd l1 0)))).bind fun t388 => (if 0 ≤ t388 then (some (l1, ((Int.tmod (shr .i64 a2 t388) 2) == 0))) else (none))) else (none)) else (none)) else (none)) = some (r1, r2) := by first | (rw [hji5] at H; exact H) | (simp only [hji5] at H ⊢; exact H)
  have hji5w : (IntKind.i64.wrap (a0 - 1)) = ji5 := (i64_w _).trans hji5
  obtain ⟨c6b0, H⟩ := in_ H
  obtain ⟨c7b0, H⟩ := in_ H
  obtain ⟨c8, H⟩ := in0_ H
  have c8b0 := decide_eq_true c8
  have c8b1 : decide (0 < l1.length) = true := decide_eq_true (by omega)
  clear c8
  obtain ⟨t388, A9, H⟩ := bs_ H
  (try dsimp only at H)
  obtain ⟨c10b0, c10b1, H⟩ := in2_ H
  obtain ⟨ji11, hji11⟩ : ∃ j_ : Int, (shr .i64 a2 t388) = j_ := ⟨_, rfl⟩
  replace H : (some (l1, ((Int.tmod (ji11) 2) == 0))) = some (r1, r2) := by first | (rw [hji11] at H; exact H) | (simp only [hji11] at H ⊢; exact H)
  (try rw [hji11] at A9)
  have hji11_ : (a2 / 2 ^ min t388.toNat 64) = ji11 := hji11
  have hji11z : t388 ≤ 64 → (a2 / 2 ^ t388.toNat) = ji11 := shr_small hji11
  simp only [Option.some.injEq, Prod.mk.injEq] at H
  obtain ⟨rfl, rfl⟩ := H
  obtain ⟨Ao12, co12, eo12⟩ := Kd.R_slice HO1.out
  subst eo12
  go_enter Try.func52, Try.ntmps52
  try go_wp2
  have n0_ := Aside0.mk (Kd.R_drew HO1.out)
  have n1_ := Aside0.mk (Kept.drew HK.out)
  have n2_ := Aside0.mk (below_drew1 HB.out)
  clear HO1
  clear HK
  clear HB
  have HO1 := n0_
  have HK := n1_
  have HB := n2_
  clear n0_ n1_ n2_
  have p386 : 0 ≤ ((ji5) : Int) := ofd
  have q386 : (ji5) < (l1.length : Int) := ofd
  obtain ⟨ad386, e386, hx386_0⟩ := Kd.at_int (Kd.R_reads' HO1.out).2.2 (ji5) p386 q386
  cases e386
  replace p386 := eq_true p386
  replace q386 := eq_true q386
  have p387 : 0 ≤ (0 : Int) := (by omega)
  have q387 : 0 < (l1.length : Int) := ofd
  obtain ⟨ad387, e387, hx387_0⟩ := Kd.at_int (Kd.R_reads' HO1.out).2.2 0 p387 q387
  obtain rfl : ad386 = ad387 := (by injection e387)
  have qi387 : (0 < l1.length) = True := eq_true (by omega)
  (try rw [show ((0 : Int)).toNat = 0 from rfl] at hx387_0)
  (try rw [Addr.add_zero'] at hx387_0)
  replace p387 := eq_true p387
  replace q387 := eq_true q387
  refine start_ (n := 11) (S := fun w' => w'.cell? (ad386.add ((ji5)).toNat) = some (.int .i64 (rd l1 (ji5))) ∧ w'.cell? ad386 = some (.int .i64 (rd l1 0))) (ds := []) #[false, false, false, false, false, false, false, false, false, false, false] (by kernel_rfl) rfl rfl ⟨hx386_0, hx387_0⟩ (fun hHeld => ?_); refine with_tabW Zan.tab2 Zan.bits2 (fun HT_ HW_ => ?_)
  generalize w.drew = w13 at HO1 HK HB hx386_0 hx387_0 hHeld ⊢
  refine pure_ (i := 0) (N := some 17) (v := ?_) (a' := ?_) #[true, false, false, false, false, false, false, false, false, false, false] rfl rfl (any_of HT_.out (by kernel_rfl)) (fun _ _ _ h => h) (Or.inl ⟨by rfl, ?_⟩) ?_ ?_
  rotate_left
  ·intro w'
   go_simp
   with_reducible rfl
  rotate_left
  ·simp only [Act.put, List.setIfInBounds_toArray, List.set_cons_zero, List.set_cons_succ, i64_w, i32_w]
   rfl
  refine pure_ (i := 1) (N := some 18) (v := ?_) (a' := ?_) #[true, true, false, false, false, false, false, false, false, false, false] rfl rfl (any_of HT_.out (by kernel_rfl)) (fun _ _ _ h => h) (Or.inl ⟨by rfl, ?_⟩) ?_ ?_
  rotate_left
  ·intro w'
   go_simp
   with_reducible rfl
  rotate_left
  ·simp only [Act.put, List.setIfInBounds_toArray, List.set_cons_zero, List.set_cons_succ, i64_w, i32_w]
   rfl
  refine pure_ (i := 2) (N := some 19) (v := ?_) (a' := ?_) #[true, true, true, false, false, false, false, false, false, false, false] rfl rfl (any_of HT_.out (by kernel_rfl)) (fun _ _ _ h => h) (Or.inl ⟨by rfl, ?_⟩) ?_ ?_
  rotate_left
  ·intro w'
   go_simp
   with_reducible rfl
  rotate_left
  ·simp only [Act.put, List.setIfInBounds_toArray, List.set_cons_zero, List.set_cons_succ, i64_w, i32_w]
   rfl
  refine pure_ (i := 3) (N := some 20) (v := ?_) (a' := ?_) #[true, true, true, true, false, false, false, false, false, false, false] rfl rfl (any_of HT_.out (by kernel_rfl)) (fun _ _ _ h => h) (Or.inl ⟨by rfl, ?_⟩) ?_ ?_
  rotate_left
  ·intro w'
   go_simp
   with_reducible rfl
  rotate_left
  ·simp only [Act.put, List.setIfInBounds_toArray, List.set_cons_zero, List.set_cons_succ, i64_w, i32_w]
   rfl
  refine pure_ (i := 5) (N := some 22) (v := ?_) (a' := ?_) #[true, true, true, true, false, true, false, false, false, false, false] rfl rfl (any_of HT_.out (by kernel_rfl)) (fun _ _ _ h => h) (Or.inl ⟨by rfl, ?_⟩) ?_ ?_
  rotate_left
  ·intro w'
   go_simp
   with_reducible rfl
  rotate_left
  ·simp only [Act.put, List.setIfInBounds_toArray, List.set_cons_zero, List.set_cons_succ, i64_w, i32_w]
   rfl
  refine pure_ (i := 6) (N := some 23) (v := ?_) (a' := ?_) #[true, true, true, true, false, true, true, false, false, false, false] rfl rfl (any_of HT_.out (by kernel_rfl)) (fun _ _ _ h => h) (Or.inl ⟨by rfl, ?_⟩) ?_ ?_
  rotate_left
  ·intro w'
   go_simp
   with_reducible rfl
  rotate_left
  ·simp only [Act.put, List.setIfInBounds_toArray, List.set_cons_zero, List.set_cons_succ, i64_w, i32_w]
   rfl
  refine take_ (i := 4) (N := some 21) (v := ?_) (a' := ?_) #[true, true, true, true, true, true, true, false, false, false, false] rfl rfl (take_ofW HT_.out HW_.out (by kernel_rfl)) (fun _ _ _ h => h) (Or.inl ⟨by rfl, ?_⟩) hHeld ?_ ?_
  rotate_left
  ·rintro w' ⟨s0, s1⟩
   go_simp
   with_reducible rfl
  rotate_left
  ·simp only [Act.put, List.setIfInBounds_toArray, List.set_cons_zero, List.set_cons_succ, i64_w, i32_w]
   rfl
  refine take_ (i := 7) (N := some 24) (v := ?_) (a' := ?_) #[true, true, true, true, true, true, true, true, false, false, false] rfl rfl (take_ofW HT_.out HW_.out (by kernel_rfl)) (fun _ _ _ h => h) (Or.inl ⟨by rfl, ?_⟩) hHeld ?_ ?_
  rotate_left
  ·rintro w' ⟨s0, s1⟩
   go_simp
   with_reducible rfl
  rotate_left
  ·simp only [Act.put, List.setIfInBounds_toArray, List.set_cons_zero, List.set_cons_succ, i64_w, i32_w]
   rfl
  refine pure_ (i := 8) (N := some 25) (v := ?_) (a' := ?_) #[true, true, true, true, true, true, true, true, true, false, false] rfl rfl (any_of HT_.out (by kernel_rfl)) (fun _ _ _ h => h) (Or.inl ⟨by rfl, ?_⟩) ?_ ?_
  rotate_left
  ·intro w'
   go_simp
   with_reducible rfl
  rotate_left
  ·simp only [Act.put, List.setIfInBounds_toArray, List.set_cons_zero, List.set_cons_succ, i64_w, i32_w]
   rfl
  refine one_ (i := 9) (N := some 26) #[true, true, true, true, true, true, true, true, true, true, false] rfl rfl (one_of HT_.out (by kernel_rfl)) (by decide) (fun K hK => ?_)
  refine goes_ Try.func67 (by kernel_rfl) rfl #[.int .i64 (wrap64 ((rd l1 (ji5)) - (rd l1 0)))] (by rfl) rfl rfl (by (try simp only [List.map_toArray, List.map_cons, List.map_nil]); first | done | (simp only [hji5]; rfl) | rfl | (simp only [List.length_drop, List.length_take]; rfl)) ?_
  with_reducible refine (Zdb.calls (wrap64 ((rd l1 (ji5)) - (rd l1 0))) t388 _ A9.out).mono ?_
  rintro e w' ⟨rfl, ⟨nd, rfl⟩⟩
  refine ⟨_, rfl, ?_⟩
  refine hK.out _ _ ⟨hHeld.1, hHeld.2⟩ (fun hHeld => ?_)
  clear hK K
  refine norm_ (a' := ?_) ?_ ?_
  rotate_left
  ·show Act.put _ (some 26) _ = _
   simp only [Act.put, List.setIfInBounds_toArray, List.set_cons_zero, List.set_cons_succ, i64_w, i32_w]
   rfl
  refine pure_ (i := 10) (N := some 8) (v := ?_) (a' := ?_) #[true, true, true, true, true, true, true, true, true, true, true] rfl rfl (any_of HT_.out (by kernel_rfl)) (fun _ _ _ h => h) (Or.inl ⟨by rfl, ?_⟩) ?_ ?_
  rotate_left
  ·intro w'
   go_simp
   with_reducible rfl
  rotate_left
  ·simp only [Act.put, List.setIfInBounds_toArray, List.set_cons_zero, List.set_cons_succ, i64_w, i32_w]
   rfl
  refine done_ (done_of HT_.out (by kernel_rfl)) ?_
  try go_wp2
  (try (rw [drewN_self w13]; generalize hq_ : World.drewN w13 _ = w13; have n0_ : Aside0 (Kd.R (Kd.int .i64) 3 w13 w0.heap.size (fun k_ => (P1_ k_ ∨ w.heap.size ≤ k_)) (.slice (some ad386) l1.length co12) l1) := ⟨by rw [← hq_]; exact (atR HO1)⟩; have n1_ : Aside0 (Kept w w13 (fun k_ => P1_ k_)) := ⟨by rw [← hq_]; exact (by repeat (first | (with_reducible first | exact HK.out | apply Kept.alloc | apply Kept.drewN | apply Kept.drew) | exact HK.out))⟩; have n2_ : Aside0 (Below w0.heap.size w0 w13) := ⟨by rw [← hq_]; exact (atB HB)⟩; clear HO1 HK HB hq_; have HO1 := n0_; have HK := n1_; have HB := n2_; clear n0_ n1_ n2_))
  have n0_ := Aside0.mk (Kd.R_drew HO1.out)
  have n1_ := Aside0.mk (Kept.drew HK.out)
  have n2_ := Aside0.mk (below_drew1 HB.out)
  clear HO1
  clear HK
  clear HB
  have HO1 := n0_
  have HK := n1_
  have HB := n2_
  clear n0_ n1_ n2_
  refine start_ (n := 8) (S := fun w' => True) (ds := []) #[false, false, false, false, false, false, false, false] (by kernel_rfl) rfl rfl trivial (fun hHeld => ?_); refine with_tabW Zan.tab3 Zan.bits3 (fun HT_ HW_ => ?_)
  generalize w13.drew = w14 at HO1 HK HB hHeld ⊢
  refine pure_ (i := 0) (N := some 27) (v := ?_) (a' := ?_) #[true, false, false, false, false, false, false, false] rfl rfl (any_of HT_.out (by kernel_rfl)) (fun _ _ _ h => h) (Or.inl ⟨by rfl, ?_⟩) ?_ ?_
  rotate_left
  ·intro w'
   go_simp
   with_reducible rfl
  rotate_left
  ·simp only [Act.put, List.setIfInBounds_toArray, List.set_cons_zero, List.set_cons_succ, i64_w, i32_w]
   rfl
  refine pure_ (i := 1) (N := some 28) (v := ?_) (a' := ?_) #[true, true, false, false, false, false, false, false] rfl rfl (any_of HT_.out (by kernel_rfl)) (fun _ _ _ h => h) (Or.inl ⟨by rfl, ?_⟩) ?_ ?_
  rotate_left
  ·intro w'
   go_simp
   with_reducible rfl
  rotate_left
  ·simp only [Act.put, List.setIfInBounds_toArray, List.set_cons_zero, List.set_cons_succ, i64_w, i32_w]
   rfl
  refine pure_ (i := 2) (N := some 29) (v := ?_) (a' := ?_) #[true, true, true, false, false, false, false, false] rfl rfl (any_of HT_.out (by kernel_rfl)) (fun _ _ _ h => h) (Or.inl ⟨by rfl, ?_⟩) ?_ ?_
  rotate_left
  ·intro w'
   go_simp
   with_reducible rfl
  rotate_left
  ·simp only [Act.put, List.setIfInBounds_toArray, List.set_cons_zero, List.set_cons_succ, i64_w, i32_w]
   rfl
  refine pure_ (i := 3) (N := some 30) (v := ?_) (a' := ?_) #[true, true, true, true, false, false, false, false] rfl rfl (any_of HT_.out (by kernel_rfl)) (fun _ _ _ h => h) (Or.inl ⟨by rfl, ?_⟩) ?_ ?_
  rotate_left
  ·intro w'
   go_simp
   with_reducible rfl
  rotate_left
  ·simp only [Act.put, List.setIfInBounds_toArray, List.set_cons_zero, List.set_cons_succ, i64_w, i32_w]
   rfl
  refine pure_ (i := 4) (N := some 31) (v := ?_) (a' := ?_) #[true, true, true, true, true, false, false, false] rfl rfl (any_of HT_.out (by kernel_rfl)) (fun _ _ _ h => h) (Or.inl ⟨by rfl, ?_⟩) ?_ ?_
  rotate_left
  ·intro w'
   go_simp
   with_reducible rfl
  rotate_left
  ·simp only [Act.put, List.setIfInBounds_toArray, List.set_cons_zero, List.set_cons_succ, i64_w, i32_w]
   rfl
  refine pure_ (i := 5) (N := some 32) (v := ?_) (a' := ?_) #[true, true, true, true, true, true, false, false] rfl rfl (any_of HT_.out (by kernel_rfl)) (fun _ _ _ h => h) (Or.inl ⟨by rfl, ?_⟩) ?_ ?_
  rotate_left
  ·intro w'
   go_simp
   with_reducible rfl
  rotate_left
  ·simp only [Act.put, List.setIfInBounds_toArray, List.set_cons_zero, List.set_cons_succ, i64_w, i32_w]
   rfl
  refine pure_ (i := 6) (N := some 6) (v := ?_) (a' := ?_) #[true, true, true, true, true, true, true, false] rfl rfl (any_of HT_.out (by kernel_rfl)) (fun _ _ _ h => h) (Or.inl ⟨by rfl, ?_⟩) ?_ ?_
  rotate_left
  ·intro w'
   go_simp
   with_reducible rfl
  rotate_left
  ·simp only [Act.put, List.setIfInBounds_toArray, List.set_cons_zero, List.set_cons_succ, i64_w, i32_w]
   rfl
  refine pure_ (i := 7) (N := some 7) (v := ?_) (a' := ?_) #[true, true, true, true, true, true, true, true] rfl rfl (any_of HT_.out (by kernel_rfl)) (fun _ _ _ h => h) (Or.inl ⟨by rfl, ?_⟩) ?_ ?_
  rotate_left
  ·intro w'
   go_simp
   with_reducible rfl
  rotate_left
  ·simp only [Act.put, List.setIfInBounds_toArray, List.set_cons_zero, List.set_cons_succ, i64_w, i32_w]
   rfl
  refine done_ (done_of HT_.out (by kernel_rfl)) ?_
  try go_wp2
  go_ret2
  exact ⟨_, by first | rfl | (simp [errW_none, errW_some] <;> rfl) | (simp only [← hji5, ← hji11]; first | rfl | (simp [errW_none, errW_some] <;> rfl)) | (simp [*, errW_none, errW_some] <;> rfl), atR HO1, atB HB, by repeat (first | (with_reducible first | exact HK.out | apply Kept.alloc | apply Kept.drewN | apply Kept.drew) | exact HK.out)⟩
 ·rw [if_neg c4] at H
  have c4b0 : ((l1.length : Int) == a0) = false := beq_eq_false_iff_ne.mpr c4
  have c4b1 : ((l1.length : Int) != a0) = true := bne_iff_ne.mpr c4
  have H' := Aside0.mk H
  clear H
  obtain ⟨Ao15, co15, eo15⟩ := Kd.R_slice HO1.out
  subst eo15
  go_enter Try.func52, Try.ntmps52
  go_wp2
  go_loopg [9] k (fun kq v9 w' => ∃ (x9_1 : Int), v9 = .int .i64 x9_1 ∧ Aside0 (Zan.l0 kq a0 l1 a2 x9_1 = some (r1, r2)) ∧ Aside0 (kq ≤ k) ∧ Aside0 (Kd.R (Kd.int .i64) 3 w' w0.heap.size (fun k_ => (P1_ k_ ∨ w.heap.size ≤ k_)) (.slice Ao15 l1.length co15) l1) ∧ Aside0 (Kept w w' (fun k_ => P1_ k_)) ∧ Aside0 (Below w0.heap.size w0 w'))
  case atStart => exact ⟨(0), eqd, H', ⟨Nat.le_refl _⟩, ⟨atR HO1⟩, ⟨by repeat (first | (with_reducible first | exact HK.out | apply Kept.alloc | apply Kept.drewN | apply Kept.drew) | exact HK.out)⟩, ⟨atB HB⟩⟩
  case round =>
   clear H'
   try clear c4
   try clear c4b0
   try clear c4b1
   obtain ⟨x9_1, rfl, HA, HK1, HO_1, HK, HB⟩ := hrel
   cases gk with
   | zero => exact absurd HA.out (by simp [Zan.l0])
   | succ k1 =>
    have H := HA.out
    clear HA
    simp only [Zan.l0] at H
    by_cases c16 : x9_1 ≤ a0
    rotate_left
    ·rw [if_neg c16] at H
     have c16b0 := decide_eq_false c16
     clear c16
     simp only [Option.some.injEq, Prod.mk.injEq] at H
     obtain ⟨rfl, rfl⟩ := H
     go_wp2
     go_ret2
     exact ⟨_, eqr, by first | exact Kd.R_nil _ _ _ _ _ | exact Kd.N_nil _ _ _ _ _ | exact Kd.V_nil _ _ _ _ _ | exact Kd.Q_nil _ _ _ _ _ | exact Kd.S_nil _ _ _ _ _, atB HB, by repeat (first | (with_reducible first | exact HK.out | apply Kept.alloc | apply Kept.drewN | apply Kept.drew) | exact HK.out)⟩
    rw [if_pos c16] at H
    have c16b0 := decide_eq_true c16
    clear c16
    obtain ⟨ji17, hji17⟩ : ∃ j_ : Int, (wrap64 ((l1.length : Int) - 1)) = j_ := ⟨_, rfl⟩
    replace H : (if 0 ≤ (ji17) then (if (ji17) < (l1.length : Int) then ((Zdb.f (wrap64 (x9_1 - (rd l1 (ji17))))).bind fun t390 => ((Zaz.f k1 l1 x9_1).bind fun t391 => (if t391 = true then (Zan.j1 k1 a0 l1 a2 x9_1 t390 true) else (if 0 ≤ t390 then (Zan.j1 k1 a0 l1 a2 x9_1 t390 ((Int.tmod (shr .i64 a2 t390) 2) == 1)) else (none))))) else (none)) else (none)) = some (r1, r2) := by first | (rw [hji17] at H; exact H) | (simp only [hji17] at H ⊢; exact H)
    have hji17w : (IntKind.i64.wrap ((l1.length : Int) - 1)) = ji17 := (i64_w _).trans hji17
    obtain ⟨c18b0, H⟩ := in_ H
    obtain ⟨c19b0, H⟩ := in_ H
    obtain ⟨t390, A20, H⟩ := bs_ H
    (try dsimp only at H)
    have HC21 := Aside0.mk H
    clear H
    have p389 : 0 ≤ ((ji17) : Int) := ofd
    have q389 : (ji17) < (l1.length : Int) := ofd
    obtain ⟨ad389, e389, hx389_0⟩ := Kd.at_int (Kd.R_reads' HO_1.out).2.2 (ji17) p389 q389
    cases e389
    replace p389 := eq_true p389
    replace q389 := eq_true q389
    go_upto_region 8 with (first | ((with_reducible refine gate_callee (f := 67) rfl ?_); refine goesL_ (some 46) rfl rfl Try.func67 (by kernel_rfl) rfl #[.int .i64 (wrap64 (x9_1 - (rd l1 (ji17))))] rfl (by (try simp only [List.map_toArray, List.map_cons, List.map_nil]); first | done | (simp only [hji17]; rfl) | rfl | (simp only [List.length_drop, List.length_take]; rfl)) ?_; (with_reducible refine (Zdb.calls (wrap64 (x9_1 - (rd l1 (ji17)))) t390 _ A20.out).mono ?_); rintro e w' ⟨rfl, ⟨nd, rfl⟩⟩; refine ⟨_, rfl, ?_⟩))
    (try simp only [Act.put, List.setIfInBounds_toArray, List.set_cons_zero, List.set_cons_succ])
    go_cut [56] (fun v56 wc => ∃ (kq : Nat) (x56_20 : Bool), v56 = .bool x56_20 ∧ Aside0 (Zan.j1 kq a0 l1 a2 x9_1 t390 x56_20 = some (r1, r2)) ∧ Aside0 (kq ≤ k1) ∧ Aside0 (Kd.R (Kd.int .i64) 3 wc w0.heap.size (fun k_ => (P1_ k_ ∨ w.heap.size ≤ k_)) (.slice (some ad389) l1.length co15) l1) ∧ Aside0 (Kept w wc (fun k_ => P1_ k_)) ∧ Aside0 (Below w0.heap.size w0 wc))
    case first =>
     have H := HC21.out
     clear HC21
     obtain ⟨t391, A22, H⟩ := bs_ H
     (try dsimp only at H)
     by_cases c23 : t391 = true
     ·subst c23
      replace H := it_ H
      have H' := Aside0.mk H
      clear H
      go_wp2_with (first | ((with_reducible refine gate_callee (f := 68) rfl ?_); refine goesA (some 49) Try.func68 #[.slice (some ad389) l1.length co15, .int .i64 x9_1] ?_; (with_reducible refine (Zaz.calls k1 _ _ l1 x9_1 true _ ?side1 ?side2 A22.out).mono ?_); (case side1 => exact atRC HO_1); (case side2 => exact (Kd.R_reads' HO_1.out).2.1); rintro e w' ⟨rfl, ⟨nd, rfl⟩⟩; refine ⟨_, rfl, ?_⟩))
      go_meet
      case rel => exact ⟨_, (true), eqd, H', ⟨by have := HK1.out; first | omega | exact Nat.le_refl _⟩, ⟨atR HO_1⟩, ⟨by repeat (first | (with_reducible first | exact HK.out | apply Kept.alloc | apply Kept.drewN | apply Kept.drew) | exact HK.out)⟩, ⟨atB HB⟩⟩
     replace c23 := Bool.eq_false_iff.mpr c23
     subst c23
     replace H := if_ H
     obtain ⟨c24b0, c24b1, H⟩ := in2_ H
     obtain ⟨ji25, hji25⟩ : ∃ j_ : Int, (shr .i64 a2 t390) = j_ := ⟨_, rfl⟩
     replace H : (Zan.j1 k1 a0 l1 a2 x9_1 t390 ((Int.tmod (ji25) 2) == 1)) = some (r1, r2) := by first | (rw [hji25] at H; exact H) | (simp only [hji25] at H ⊢; exact H)
     (try rw [hji25] at A22)
     have hji25_ : (a2 / 2 ^ min t390.toNat 64) = ji25 := hji25
     have hji25z : t390 ≤ 64 → (a2 / 2 ^ t390.toNat) = ji25 := shr_small hji25
     have H' := Aside0.mk H
     clear H
     go_wp2_with (first | ((with_reducible refine gate_callee (f := 68) rfl ?_); refine goesA (some 49) Try.func68 #[.slice (some ad389) l1.length co15, .int .i64 x9_1] ?_; (with_reducible refine (Zaz.calls k1 _ _ l1 x9_1 false _ ?side1 ?side2 A22.out).mono ?_); (case side1 => exact atRC HO_1); (case side2 => exact (Kd.R_reads' HO_1.out).2.1); rintro e w' ⟨rfl, ⟨nd, rfl⟩⟩; refine ⟨_, rfl, ?_⟩))
     go_meet
     case rel => exact ⟨_, (((Int.tmod (ji25) 2) == 1)), (by first | rfl | (simp; done) | (simp only [← hji25] <;> (first | rfl | simp)) | (simp [*]; done)), H', ⟨by have := HK1.out; first | omega | exact Nat.le_refl _⟩, ⟨atR HO_1⟩, ⟨by repeat (first | (with_reducible first | exact HK.out | apply Kept.alloc | apply Kept.drewN | apply Kept.drew) | exact HK.out)⟩, ⟨atB HB⟩⟩
    case rest =>
     clear HC21
     try clear c16b0
     try clear c18b0
     try clear c19b0
     try clear hx389_0
     try clear p389
     try clear q389
     obtain ⟨kq, x56_20, rfl, HA, HJ20, HO_1, HK, HB⟩ := hcut
     cases kq with
     | zero => exact absurd HA.out (by simp [Zan.j1])
     | succ kj20 =>
      have H := HA.out
      clear HA
      simp only [Zan.j1] at H
      by_cases c26 : x56_20 = true
      ·subst c26
       replace H := it_ H
       have H' := Aside0.mk H
       clear H
       go_wp2
       first | go_roundg kj20 | ((try subst hji17); go_roundg kj20)
       case measure => have := HK1.out; have := HJ20.out; omega
       case rel => exact ⟨(wrap64 (x9_1 + 1)), eqd, H', ⟨by have := HK1.out; have := HJ20.out; omega⟩, ⟨atR HO_1⟩, ⟨by repeat (first | (with_reducible first | exact HK.out | apply Kept.alloc | apply Kept.drewN | apply Kept.drew) | exact HK.out)⟩, ⟨atB HB⟩⟩
      replace c26 := Bool.eq_false_iff.mpr c26
      subst c26
      replace H := if_ H
      obtain ⟨t392, A27, H⟩ := bs_ H
      (try dsimp only at H)
      obtain ⟨y395, hy395⟩ : ∃ y_ : List Int, y_ = (([x9_1] : List Int)) := ⟨_, rfl⟩
      replace H : (if t392.length + y395.length < 17592186044416 then (if 0 ≤ t390 then ((Zan.f kj20 a0 (t392 ++ y395) (Go.bits .or .i64 a2 (shl .i64 1 t390))).bind fun bt401 => (if bt401.2 = true then (some (bt401.1, true)) else (Zan.l0 kj20 a0 l1 a2 (wrap64 (x9_1 + 1))))) else (none)) else (none)) = some (r1, r2) := by first | (rw [hy395]; with_reducible exact H) | (have H2_ := (Option.bind_some _ _).symm.trans H; rw [hy395]; with_reducible exact H2_) | (have H2_ := (Option.bind_some _ _).symm.trans H; with_reducible exact H2_) | with_reducible exact H | (rw [hy395]; exact H) | exact H
      have Ny395 := Aside0.mk hy395
      clear hy395
      obtain ⟨c28, H⟩ := in0_ H
      have LMc28 := Aside0.mk c28
      clear c28
      obtain ⟨y398, hy398⟩ : ∃ y_ : List Int, y_ = (t392 ++ y395) := ⟨_, rfl⟩
      replace H : (if 0 ≤ t390 then ((Zan.f kj20 a0 y398 (Go.bits .or .i64 a2 (shl .i64 1 t390))).bind fun bt401 => (if bt401.2 = true then (some (bt401.1, true)) else (Zan.l0 kj20 a0 l1 a2 (wrap64 (x9_1 + 1))))) else (none)) = some (r1, r2) := by first | (rw [hy398]; with_reducible exact H) | (have H2_ := (Option.bind_some _ _).symm.trans H; rw [hy398]; with_reducible exact H2_) | (have H2_ := (Option.bind_some _ _).symm.trans H; with_reducible exact H2_) | with_reducible exact H | (rw [hy398]; exact H) | exact H
      have Ny398 := Aside0.mk hy398
      clear hy398
      obtain ⟨c29b0, c29b1, H⟩ := in2_ H
      obtain ⟨ji30, hji30⟩ : ∃ j_ : Int, (shl .i64 1 t390) = j_ := ⟨_, rfl⟩
      replace H : ((Zan.f kj20 a0 y398 (Go.bits .or .i64 a2 (ji30))).bind fun bt401 => (if bt401.2 = true then (some (bt401.1, true)) else (Zan.l0 kj20 a0 l1 a2 (wrap64 (x9_1 + 1))))) = some (r1, r2) := by first | (rw [hji30] at H; exact H) | (simp only [hji30] at H ⊢; exact H)
      (try rw [hji30] at A27)
      have hji30_ : (IntKind.i64.wrap (1 * 2 ^ min t390.toNat 64)) = ji30 := hji30
      have hji30z : t390 ≤ 64 → (IntKind.i64.wrap (1 * 2 ^ t390.toNat)) = ji30 := shl_small hji30
      have hji30u : (IntKind.i64.wrap (2 ^ min t390.toNat 64)) = ji30 := by have h_ := hji30_; rw [Int.one_mul] at h_; exact h_
      have hji30v : t390 ≤ 64 → (IntKind.i64.wrap (2 ^ t390.toNat)) = ji30 := fun hle_ => by have h_ := hji30z hle_; rw [Int.one_mul] at h_; exact h_
      have hji30y : (wrap64 (1 * 2 ^ min t390.toNat 64)) = ji30 := (i64_w _).symm.trans hji30_
      have hji30x : t390 ≤ 64 → (wrap64 (1 * 2 ^ t390.toNat)) = ji30 := fun h_ => (i64_w _).symm.trans (hji30z h_)
      replace H := Option.bind_eq_some_iff.mp H
      obtain ⟨⟨t401, t404⟩, A310, H⟩ := H
      replace H : (if t404 = true then (some (t401, true)) else (Zan.l0 kj20 a0 l1 a2 (wrap64 (x9_1 + 1)))) = some (r1, r2) := H
      have A31 := Aside0.mk A310
      clear A310
      by_cases c32 : t404 = true
      ·subst c32
       replace H := it_ H
       simp only [Option.some.injEq, Prod.mk.injEq] at H
       obtain ⟨rfl, rfl⟩ := H
       try go_wp2
       have n0_ := Aside0.mk (Kd.R_drew HO_1.out)
       have n1_ := Aside0.mk (Kept.drew HK.out)
       have n2_ := Aside0.mk (below_drew1 HB.out)
       clear HO_1
       clear HK
       clear HB
       have HO_1 := n0_
       have HK := n1_
       have HB := n2_
       clear n0_ n1_ n2_
       refine start_ (n := 16) (S := fun w' => True) (ds := []) #[false, false, false, false, false, false, false, false, false, false, false, false, false, false, false, false] (by kernel_rfl) rfl rfl trivial (fun hHeld => ?_); refine with_tabW Zan.tab9 Zan.bits9 (fun HT_ HW_ => ?_)
       generalize wc.drew = w33 at HO_1 HK HB hHeld ⊢
       refine pure_ (i := 0) (N := some 58) (v := ?_) (a' := ?_) #[true, false, false, false, false, false, false, false, false, false, false, false, false, false, false, false] rfl rfl (any_of HT_.out (by kernel_rfl)) (fun _ _ _ h => h) (Or.inl ⟨by rfl, ?_⟩) ?_ ?_
       rotate_left
       ·intro w'
        go_simp
        with_reducible rfl
       rotate_left
       ·simp only [Act.put, List.setIfInBounds_toArray, List.set_cons_zero, List.set_cons_succ, i64_w, i32_w]
        rfl
       refine pure_ (i := 1) (N := some 59) (v := ?_) (a' := ?_) #[true, true, false, false, false, false, false, false, false, false, false, false, false, false, false, false] rfl rfl (any_of HT_.out (by kernel_rfl)) (fun _ _ _ h => h) (Or.inl ⟨by rfl, ?_⟩) ?_ ?_
       rotate_left
       ·intro w'
        go_simp
        with_reducible rfl
       rotate_left
       ·simp only [Act.put, List.setIfInBounds_toArray, List.set_cons_zero, List.set_cons_succ, i64_w, i32_w]
        rfl
       refine pure_ (i := 3) (N := some 61) (v := ?_) (a' := ?_) #[true, true, false, true, false, false, false, false, false, false, false, false, false, false, false, false] rfl rfl (any_of HT_.out (by kernel_rfl)) (fun _ _ _ h => h) (Or.inl ⟨by rfl, ?_⟩) ?_ ?_
       rotate_left
       ·intro w'
        go_simp
        with_reducible rfl
       rotate_left
       ·simp only [Act.put, List.setIfInBounds_toArray, List.set_cons_zero, List.set_cons_succ, i64_w, i32_w]
        rfl
       refine pure_ (i := 6) (N := some 64) (v := ?_) (a' := ?_) #[true, true, false, true, false, false, true, false, false, false, false, false, false, false, false, false] rfl rfl (any_of HT_.out (by kernel_rfl)) (fun _ _ _ h => h) (Or.inl ⟨by rfl, ?_⟩) ?_ ?_
       rotate_left
       ·intro w'
        go_simp
        with_reducible rfl
       rotate_left
       ·simp only [Act.put, List.setIfInBounds_toArray, List.set_cons_zero, List.set_cons_succ, i64_w, i32_w]
        rfl
       refine pure_ (i := 7) (N := some 65) (v := ?_) (a' := ?_) #[true, true, false, true, false, false, true, true, false, false, false, false, false, false, false, false] rfl rfl (any_of HT_.out (by kernel_rfl)) (fun _ _ _ h => h) (Or.inl ⟨by rfl, ?_⟩) ?_ ?_
       rotate_left
       ·intro w'
        go_simp
        with_reducible rfl
       rotate_left
       ·simp only [Act.put, List.setIfInBounds_toArray, List.set_cons_zero, List.set_cons_succ, i64_w, i32_w]
        rfl
       refine pure_ (i := 8) (N := some 66) (v := ?_) (a' := ?_) #[true, true, false, true, false, false, true, true, true, false, false, false, false, false, false, false] rfl rfl (any_of HT_.out (by kernel_rfl)) (fun _ _ _ h => h) (Or.inl ⟨by rfl, ?_⟩) ?_ ?_
       rotate_left
       ·intro w'
        go_simp
        with_reducible rfl
       rotate_left
       ·simp only [Act.put, List.setIfInBounds_toArray, List.set_cons_zero, List.set_cons_succ, i64_w, i32_w]
        rfl
       refine pure_ (i := 9) (N := some 67) (v := ?_) (a' := ?_) #[true, true, false, true, false, false, true, true, true, true, false, false, false, false, false, false] rfl rfl (any_of HT_.out (by kernel_rfl)) (fun _ _ _ h => h) (Or.inl ⟨by rfl, ?_⟩) ?_ ?_
       rotate_left
       ·intro w'
        go_simp
        with_reducible rfl
       rotate_left
       ·simp only [Act.put, List.setIfInBounds_toArray, List.set_cons_zero, List.set_cons_succ, i64_w, i32_w]
        rfl
       refine join_ (σ := Value × Value) 7 #[true, true, true, true, true, false, true, true, true, true, false, false, false, false, false, false] (fun s_ => [(60, s_.1), (62, s_.2)]) (fun s_ w' => (Kd.R (Kd.int .i64) 3 w' w0.heap.size (fun k_ => (P1_ k_ ∨ w.heap.size ≤ k_) ∧ some k_ ≠ (s_.2 : Value).ownBlock ∧ some k_ ≠ (.slice (some ad389) l1.length co15 : Value).ownBlock) s_.1 t392) ∧ (Kd.R (Kd.int .i64) 3 w' w0.heap.size (fun k_ => (P1_ k_ ∨ w.heap.size ≤ k_) ∧ some k_ ≠ (s_.1 : Value).ownBlock ∧ some k_ ≠ (.slice (some ad389) l1.length co15 : Value).ownBlock) s_.2 y395) ∧ (Kd.R (Kd.int .i64) 3 w' w0.heap.size (fun k_ => (P1_ k_ ∨ w.heap.size ≤ k_) ∧ some k_ ≠ (s_.1 : Value).ownBlock ∧ some k_ ≠ (s_.2 : Value).ownBlock) (.slice (some ad389) l1.length co15) l1) ∧ (Kept w w' (fun k_ => P1_ k_)) ∧ (Below w0.heap.size w0 w')) ?_ ?_
       rotate_left
       ·intro hCont
        refine two_ (i := 2) (j := 4) (Ni := some 60) (Nj := some 62) #[true, true, true, true, false, false, true, true, true, true, false, false, false, false, false, false] #[true, true, false, true, true, false, true, true, true, true, false, false, false, false, false, false] rfl rfl rfl rfl (two_of HT_.out (by kernel_rfl)) (by decide) (by decide) (fun K hK => ?_) (fun K hK => ?_)
        ·skip
         refine goes_ Try.func69 (by kernel_rfl) rfl #[.slice (some ad389) l1.length co15] (by rfl) rfl rfl (by (try simp only [List.map_toArray, List.map_cons, List.map_nil]); first | done | rfl | (simp only [List.length_drop, List.length_take]; rfl)) ?_
         with_reducible refine (Zcf.calls _ _ l1 t392 _ ?side1 ?side2 A27.out).mono ?_
         (case side1 => exact atRC HO_1)
         (case side2 => exact (Kd.R_reads' HO_1.out).2.1)
         rintro e w34 ⟨v393, rfl, ho0, hb⟩
         refine ⟨_, rfl, ?_⟩
         have n0_ := eldRR HO_1 ho0 hb
         have n1_ := Aside0.mk (Kd.R_lower (Kd.R_new' (Kd.R_newM (M := fun k_ => (P1_ k_ ∨ w.heap.size ≤ k_)) ho0 (by first | exact HK.out.1 | exact (show Kept w _ (fun k_ => P1_ k_) from by repeat (first | (with_reducible first | exact HK.out | apply Kept.alloc | apply Kept.drewN | apply Kept.drew) | exact HK.out)).1) (fun k_ h_ => .inr h_)) (ltR HO_1)) (szB HB))
         have n2_ := Aside0.mk (Kept.below (S := (fun k_ => P1_ k_)) (by repeat (first | (with_reducible first | exact HK.out | apply Kept.alloc | apply Kept.drewN | apply Kept.drew) | exact HK.out)) hb)
         have n3_ := upB HB hb
         clear HO_1
         clear HK
         clear HB
         have HO_1 := n0_
         have HO394 := n1_
         have HK := n2_
         have HB := n3_
         clear n0_ n1_ n2_ n3_
         (try clear hb)
         (try clear hb2)
         (try clear hk)
         (try clear hi)
         (try clear ho0)
         refine hK.out _ _ trivial (fun hHeld => ?_)
         clear hK K
         refine norm_ (a' := ?_) ?_ ?_
         rotate_left
         ·show Act.put _ (some 60) _ = _
          simp only [Act.put, List.setIfInBounds_toArray, List.set_cons_zero, List.set_cons_succ, i64_w, i32_w]
          rfl
         refine one_ (i := 4) (N := some 62) #[true, true, true, true, true, false, true, true, true, true, false, false, false, false, false, false] rfl rfl (one_of HT_.out (by kernel_rfl)) (by decide) (fun K hK => ?_)
         refine Kd.R_lit_step (Kd.int .i64) _ 3 ?hg (N := 62) ?hd (xs := ([x9_1] : List Int)) (inner := [.int .i64 x9_1]) (ok := fun _ => True) (okp := fun _ => True) ?hr ?hp (fun _ hk => hk) trivial (Below.refl _ _) (Nat.le_refl _) (by simp) ?_; (case hd => rfl); (case hg => rfl); (case hr => first | (go_simp; done) | (go_simp; rfl)); (case hp => exact (Reps.one (show Kd.M (Kd.int .i64) _ _ _ x9_1 [.int .i64 x9_1] from rfl) (Reps.none _ _)))
         intro v396 w35 ho36 hb hg_ hnew_
         clear hg_ hnew_
         (first | rw [← Ny395.out] at ho36 | (simp only [Int.reduceToNat] at ho36; rw [← Ny395.out] at ho36))
         have n0_ := eldRR HO_1 ho36 hb
         have n1_ := eldRR HO394 ho36 hb
         have n2_ := Aside0.mk (Kd.R_lower (Kd.R_new' (Kd.R_new' (Kd.R_newM (M := fun k_ => (P1_ k_ ∨ w.heap.size ≤ k_)) ho36 (by first | exact HK.out.1 | exact (show Kept w _ (fun k_ => P1_ k_) from by repeat (first | (with_reducible first | exact HK.out | apply Kept.alloc | apply Kept.drewN | apply Kept.drew) | exact HK.out)).1) (fun k_ h_ => .inr h_)) (ltR HO_1)) (ltR HO394)) (szB HB))
         have n3_ := Aside0.mk (Kept.below (S := (fun k_ => P1_ k_)) (by repeat (first | (with_reducible first | exact HK.out | apply Kept.alloc | apply Kept.drewN | apply Kept.drew) | exact HK.out)) hb)
         have n4_ := upB HB hb
         clear HO_1
         clear HO394
         clear HK
         clear HB
         have HO_1 := n0_
         have HO394 := n1_
         have HO397 := n2_
         have HK := n3_
         have HB := n4_
         clear n0_ n1_ n2_ n3_ n4_
         clear hb ho36
         refine hK.out _ _ trivial (fun hHeld => ?_)
         clear hK K
         refine norm_ (a' := ?_) ?_ ?_
         rotate_left
         ·show Act.put _ (some 62) _ = _
          simp only [Act.put, List.setIfInBounds_toArray, List.set_cons_zero, List.set_cons_succ, i64_w, i32_w]
          rfl
         exact norm_ (by simp only [putAll, Act.put, List.setIfInBounds_toArray, List.set_cons_zero, List.set_cons_succ]) (hCont (v393, v396) _ ⟨(by (with_reducible repeat (first | apply Kd.R_alloc | apply Kd.R_drewN | apply Kd.R_drew)); exact Kd.R_mono HO394.out (fun _ hk => ⟨hk.1.1.1, ⟨hk.2, hk.1.2⟩⟩)), (by (with_reducible repeat (first | apply Kd.R_alloc | apply Kd.R_drewN | apply Kd.R_drew)); exact Kd.R_mono HO397.out (fun _ hk => ⟨hk.1.1.1, ⟨hk.2, hk.1.2⟩⟩)), (by (with_reducible repeat (first | apply Kd.R_alloc | apply Kd.R_drewN | apply Kd.R_drew)); exact Kd.R_mono HO_1.out (fun _ hk => ⟨hk.1.1, ⟨hk.1.2, hk.2⟩⟩)), (by repeat (first | (with_reducible first | exact HK.out | apply Kept.alloc | apply Kept.drewN | apply Kept.drew) | exact HK.out)), (atB HB)⟩)
        ·skip
         refine Kd.R_lit_step (Kd.int .i64) _ 3 ?hg (N := 62) ?hd (xs := ([x9_1] : List Int)) (inner := [.int .i64 x9_1]) (ok := fun _ => True) (okp := fun _ => True) ?hr ?hp (fun _ hk => hk) trivial (Below.refl _ _) (Nat.le_refl _) (by simp) ?_; (case hd => rfl); (case hg => rfl); (case hr => first | (go_simp; done) | (go_simp; rfl)); (case hp => exact (Reps.one (show Kd.M (Kd.int .i64) _ _ _ x9_1 [.int .i64 x9_1] from rfl) (Reps.none _ _)))
         intro v396 w34 ho35 hb hg_ hnew_
         clear hg_ hnew_
         (first | rw [← Ny395.out] at ho35 | (simp only [Int.reduceToNat] at ho35; rw [← Ny395.out] at ho35))
         have n0_ := eldRR HO_1 ho35 hb
         have n1_ := Aside0.mk (Kd.R_lower (Kd.R_new' (Kd.R_newM (M := fun k_ => (P1_ k_ ∨ w.heap.size ≤ k_)) ho35 (by first | exact HK.out.1 | exact (show Kept w _ (fun k_ => P1_ k_) from by repeat (first | (with_reducible first | exact HK.out | apply Kept.alloc | apply Kept.drewN | apply Kept.drew) | exact HK.out)).1) (fun k_ h_ => .inr h_)) (ltR HO_1)) (szB HB))
         have n2_ := Aside0.mk (Kept.below (S := (fun k_ => P1_ k_)) (by repeat (first | (with_reducible first | exact HK.out | apply Kept.alloc | apply Kept.drewN | apply Kept.drew) | exact HK.out)) hb)
         have n3_ := upB HB hb
         clear HO_1
         clear HK
         clear HB
         have HO_1 := n0_
         have HO397 := n1_
         have HK := n2_
         have HB := n3_
         clear n0_ n1_ n2_ n3_
         clear hb ho35
         refine hK.out _ _ trivial (fun hHeld => ?_)
         clear hK K
         refine norm_ (a' := ?_) ?_ ?_
         rotate_left
         ·show Act.put _ (some 62) _ = _
          simp only [Act.put, List.setIfInBounds_toArray, List.set_cons_zero, List.set_cons_succ, i64_w, i32_w]
          rfl
         refine one_ (i := 2) (N := some 60) #[true, true, true, true, true, false, true, true, true, true, false, false, false, false, false, false] rfl rfl (one_of HT_.out (by kernel_rfl)) (by decide) (fun K hK => ?_)
         refine goes_ Try.func69 (by kernel_rfl) rfl #[.slice (some ad389) l1.length co15] (by rfl) rfl rfl (by (try simp only [List.map_toArray, List.map_cons, List.map_nil]); first | done | rfl | (simp only [List.length_drop, List.length_take]; rfl)) ?_
         with_reducible refine (Zcf.calls _ _ l1 t392 _ ?side1 ?side2 A27.out).mono ?_
         (case side1 => exact atRC HO_1)
         (case side2 => exact (Kd.R_reads' HO_1.out).2.1)
         rintro e w36 ⟨v393, rfl, ho0, hb⟩
         refine ⟨_, rfl, ?_⟩
         have n0_ := eldRR HO_1 ho0 hb
         have n1_ := eldRR HO397 ho0 hb
         have n2_ := Aside0.mk (Kd.R_lower (Kd.R_new' (Kd.R_new' (Kd.R_newM (M := fun k_ => (P1_ k_ ∨ w.heap.size ≤ k_)) ho0 (by first | exact HK.out.1 | exact (show Kept w _ (fun k_ => P1_ k_) from by repeat (first | (with_reducible first | exact HK.out | apply Kept.alloc | apply Kept.drewN | apply Kept.drew) | exact HK.out)).1) (fun k_ h_ => .inr h_)) (ltR HO_1)) (ltR HO397)) (szB HB))
         have n3_ := Aside0.mk (Kept.below (S := (fun k_ => P1_ k_)) (by repeat (first | (with_reducible first | exact HK.out | apply Kept.alloc | apply Kept.drewN | apply Kept.drew) | exact HK.out)) hb)
         have n4_ := upB HB hb
         clear HO_1
         clear HO397
         clear HK
         clear HB
         have HO_1 := n0_
         have HO397 := n1_
         have HO394 := n2_
         have HK := n3_
         have HB := n4_
         clear n0_ n1_ n2_ n3_ n4_
         (try clear hb)
         (try clear hb2)
         (try clear hk)
         (try clear hi)
         (try clear ho0)
         refine hK.out _ _ trivial (fun hHeld => ?_)
         clear hK K
         refine norm_ (a' := ?_) ?_ ?_
         rotate_left
         ·show Act.put _ (some 60) _ = _
          simp only [Act.put, List.setIfInBounds_toArray, List.set_cons_zero, List.set_cons_succ, i64_w, i32_w]
          rfl
         exact norm_ (by simp only [putAll, Act.put, List.setIfInBounds_toArray, List.set_cons_zero, List.set_cons_succ]) (hCont (v393, v396) _ ⟨(by (with_reducible repeat (first | apply Kd.R_alloc | apply Kd.R_drewN | apply Kd.R_drew)); exact Kd.R_mono HO394.out (fun _ hk => ⟨hk.1.1.1, ⟨hk.2, hk.1.2⟩⟩)), (by (with_reducible repeat (first | apply Kd.R_alloc | apply Kd.R_drewN | apply Kd.R_drew)); exact Kd.R_mono HO397.out (fun _ hk => ⟨hk.1.1.1, ⟨hk.2, hk.1.2⟩⟩)), (by (with_reducible repeat (first | apply Kd.R_alloc | apply Kd.R_drewN | apply Kd.R_drew)); exact Kd.R_mono HO_1.out (fun _ hk => ⟨hk.1.1, ⟨hk.2, hk.1.2⟩⟩)), (by repeat (first | (with_reducible first | exact HK.out | apply Kept.alloc | apply Kept.drewN | apply Kept.drew) | exact HK.out)), (atB HB)⟩)
       rintro ⟨v393, v396⟩ w37 ⟨h0_, h1_, h2_, h3_, h4_⟩
       have n0_ : Aside0 (Kd.R (Kd.int .i64) 3 w37 w0.heap.size (fun k_ => (P1_ k_ ∨ w.heap.size ≤ k_) ∧ some k_ ≠ (v396 : Value).ownBlock ∧ some k_ ≠ (.slice (some ad389) l1.length co15 : Value).ownBlock) v393 t392) := ⟨h0_⟩
       have n1_ : Aside0 (Kd.R (Kd.int .i64) 3 w37 w0.heap.size (fun k_ => (P1_ k_ ∨ w.heap.size ≤ k_) ∧ some k_ ≠ (v393 : Value).ownBlock ∧ some k_ ≠ (.slice (some ad389) l1.length co15 : Value).ownBlock) v396 y395) := ⟨h1_⟩
       have n2_ : Aside0 (Kd.R (Kd.int .i64) 3 w37 w0.heap.size (fun k_ => (P1_ k_ ∨ w.heap.size ≤ k_) ∧ some k_ ≠ (v393 : Value).ownBlock ∧ some k_ ≠ (v396 : Value).ownBlock) (.slice (some ad389) l1.length co15) l1) := ⟨h2_⟩
       have n3_ : Aside0 (Kept w w37 (fun k_ => P1_ k_)) := ⟨h3_⟩
       have n4_ : Aside0 (Below w0.heap.size w0 w37) := ⟨h4_⟩
       clear HO_1
       clear HK
       clear HB
       clear h0_ h1_ h2_ h3_ h4_
       have HO394 := n0_
       have HO397 := n1_
       have HO_1 := n2_
       have HK := n3_
       have HB := n4_
       clear n0_ n1_ n2_ n3_ n4_
       have hHeld := trivial
       obtain ⟨Ao39, co39, eo39⟩ := Kd.R_slice HO397.out
       (first | subst eo39 | (injection eo39 with f1_ f2_ f3_; have f4_ := f1_.symm; have f5_ := f3_.symm; clear f1_ f2_ f3_; subst f4_; subst f5_))
       refine norm_ (a' := ?_) ?_ ?_
       rotate_left
       ·simp only [putAll, Act.put, List.setIfInBounds_toArray, List.set_cons_zero, List.set_cons_succ]
        rfl
       refine one_ (i := 5) (N := some 63) #[true, true, true, true, true, true, true, true, true, true, false, false, false, false, false, false] rfl rfl (one_of HT_.out (by kernel_rfl)) (by decide) (fun K hK => ?_)
       refine Kd.R_append_rows_step (Kd.int .i64) (w0 := w0) w0.heap.size (by rfl) (.tmp 60) (.tmp 62) 24 3 (.int .i64 0) 8 rfl Try.underlying24 info3 rfl (by decide) (by omega) v393 t392 y395 _ _ _ (fun k_ => (P1_ k_ ∨ w.heap.size ≤ k_) ∧ some k_ ≠ (.slice (some ad389) l1.length co15 : Value).ownBlock ∧ some k_ ≠ (.slice Ao39 y395.length co39 : Value).ownBlock) (fun _ => False) rfl rfl ?aO ?aR (fun _ _ h => h) (fun _ h => h.elim) ?aF ?aB ?aS ?aL ?_
       (case aR => exact atRC HO397)
       (case aB => exact (atB HB))
       (case aF => exact (fun k_ hk => ⟨(.inr (Nat.le_trans (by first | exact HK.out.1 | exact (show Kept w _ (fun k_ => P1_ k_) from by repeat (first | (with_reducible first | exact HK.out | apply Kept.alloc | apply Kept.drewN | apply Kept.drew) | exact HK.out)).1) hk)), Kd.fresh' (ltR HO_1) k_ hk, Kd.fresh' (ltR HO397) k_ hk⟩))
       (case aO => exact (by (with_reducible repeat (first | apply Kd.R_alloc | apply Kd.R_drewN | apply Kd.R_drew)); exact Kd.R_mono HO394.out (fun _ hk => ⟨hk.1, ⟨hk.2.2, hk.2.1⟩⟩)))
       (case aS => exact (szB HB))
       (case aL => have := LMc28.out; omega)
       intro v399 w38 ho hb hg hat
       rw [← Ny398.out] at ho
       have n0_ := Aside0.mk (Kd.R_after (ok := (fun k_ => (P1_ k_ ∨ w.heap.size ≤ k_) ∧ some k_ ≠ (.slice Ao39 y395.length co39 : Value).ownBlock)) (by (with_reducible repeat (first | apply Kd.R_alloc | apply Kd.R_drewN | apply Kd.R_drew)); exact Kd.R_mono HO_1.out (fun _ hk => ⟨⟨hk.1, hk.2.2⟩, hk.2.1⟩)) hg hat)
       have n1_ := Aside0.mk (Kd.R_after (ok := (fun k_ => (P1_ k_ ∨ w.heap.size ≤ k_) ∧ some k_ ≠ (.slice (some ad389) l1.length co15 : Value).ownBlock)) (by (with_reducible repeat (first | apply Kd.R_alloc | apply Kd.R_drewN | apply Kd.R_drew)); exact Kd.R_mono HO397.out (fun _ hk => ⟨⟨hk.1, hk.2.2⟩, hk.2.1⟩)) hg hat)
       have n2_ := Aside0.mk (hb)
       have n3_ := Aside0.mk (Kept.of_grown (S := (fun k_ => P1_ k_)) hg (by repeat (first | (with_reducible first | exact HK.out | apply Kept.alloc | apply Kept.drewN | apply Kept.drew) | exact HK.out)) (fun k_ e_ => (HO394.out.1 k_ e_).1))
       have n4_ := Aside0.mk (ho)
       clear HO_1
       clear HO397
       clear HB
       clear HK
       clear HO394
       have HO_1 := n0_
       have HO397 := n1_
       have HB := n2_
       have HK := n3_
       have HO400 := n4_
       clear n0_ n1_ n2_ n3_ n4_
       clear ho hb hg hat
       obtain ⟨Ao40, co40, eo40⟩ := Kd.R_slice HO400.out
       (first | subst eo40 | (injection eo40 with f1_ f2_ f3_; have f4_ := f1_.symm; have f5_ := f3_.symm; clear f1_ f2_ f3_; subst f4_; subst f5_))
       refine hK.out _ _ trivial (fun hHeld => ?_)
       clear hK K
       refine norm_ (a' := ?_) ?_ ?_
       rotate_left
       ·show Act.put _ (some 63) _ = _
        simp only [Act.put, List.setIfInBounds_toArray, List.set_cons_zero, List.set_cons_succ, i64_w, i32_w]
        rfl
       refine one_ (i := 10) (N := some 68) #[true, true, true, true, true, true, true, true, true, true, true, false, false, false, false, false] rfl rfl (one_of HT_.out (by kernel_rfl)) (by decide) (fun K hK => ?_)
       refine goes_ Try.func52 (by kernel_rfl) rfl #[.int .i64 a0, .slice Ao40 y398.length co40, .int .i64 (Go.bits .or .i64 a2 (ji30))] (by rfl) rfl rfl (by (try simp only [List.map_toArray, List.map_cons, List.map_nil]); first | done | (simp only [hji30]; rfl) | rfl | (simp only [List.length_drop, List.length_take]; rfl)) ?_
       with_reducible refine (ih kj20 (by have := HK1.out; have := HJ20.out; omega) a0 (fun k_ => some k_ = (.slice Ao40 y398.length co40 : Value).ownBlock) (.slice Ao40 y398.length co40) y398 (Go.bits .or .i64 a2 (ji30)) t401 true w0 _ ?side1 ?side2 A31.out).mono ?_
       (case side1 => exact atB HB)
       (case side2 => exact Kd.R_tight rfl HO400.out)
       rintro e w41 ⟨v402, rfl, ho0, hb, hkp⟩
       refine ⟨_, rfl, ?_⟩
       have n0_ := Aside0.mk (Kd.R_mono (ok' := fun k_ => (P1_ k_ ∨ w.heap.size ≤ k_) ∧ some k_ ≠ (.slice Ao39 y395.length co39 : Value).ownBlock ∧ some k_ ≠ (v402 : Value).ownBlock) (Kd.R_keptB (HO_1.out) hkp (fun k_ hk_ hs_ => (hk_.2) hs_)) (fun k_ hk_ => ⟨hk_.1.1.1, hk_.1.1.2, fun e_ => Or.elim (ho0.1 k_ e_.symm) (fun hs_ => hk_.2.1 hs_) (fun hn_ => Nat.not_le.2 hk_.2.2 hn_)⟩))
       have n1_ := Aside0.mk (Kd.R_mono (ok' := fun k_ => (P1_ k_ ∨ w.heap.size ≤ k_) ∧ some k_ ≠ (.slice (some ad389) l1.length co15 : Value).ownBlock ∧ some k_ ≠ (v402 : Value).ownBlock) (Kd.R_keptB (HO397.out) hkp (fun k_ hk_ hs_ => (hk_.2) hs_)) (fun k_ hk_ => ⟨hk_.1.1.1, hk_.1.1.2, fun e_ => Or.elim (ho0.1 k_ e_.symm) (fun hs_ => hk_.2.1 hs_) (fun hn_ => Nat.not_le.2 hk_.2.2 hn_)⟩))
       have n2_ := Aside0.mk (Kd.R_mono (ok' := fun k_ => (P1_ k_ ∨ w.heap.size ≤ k_) ∧ some k_ ≠ (.slice (some ad389) l1.length co15 : Value).ownBlock ∧ some k_ ≠ (.slice Ao39 y395.length co39 : Value).ownBlock) ho0 (fun k_ hk_ => ⟨Or.elim hk_ (fun hs_ => (HO400.out.1 k_ (hs_).symm).1) (fun hn_ => (.inr (Nat.le_trans (by first | exact HK.out.1 | exact (show Kept w _ (fun k_ => P1_ k_) from by repeat (first | (with_reducible first | exact HK.out | apply Kept.alloc | apply Kept.drewN | apply Kept.drew) | exact HK.out)).1) hn_))), Or.elim hk_ (fun hs_ => fun e_ => (((HO_1.out).1 k_ e_.symm).2) hs_) (fun hn_ => (Kd.fresh' (ltR HO_1) k_ hn_)), Or.elim hk_ (fun hs_ => fun e_ => (((HO397.out).1 k_ e_.symm).2) hs_) (fun hn_ => (Kd.fresh' (ltR HO397) k_ hn_))⟩))
       have n3_ := Aside0.mk (Kept.then_ (S := (fun k_ => P1_ k_)) (by repeat (first | (with_reducible first | exact HK.out | apply Kept.alloc | apply Kept.drewN | apply Kept.drew) | exact HK.out)) hkp (fun k_ hs_ => (fun e_ => (HO400.out.1 k_ e_.symm).1) hs_))
       have n4_ := Aside0.mk (hb)
       clear HO_1
       clear HO397
       clear HK
       clear HB
       clear HO400
       have HO_1 := n0_
       have HO397 := n1_
       have HO403 := n2_
       have HK := n3_
       have HB := n4_
       clear n0_ n1_ n2_ n3_ n4_
       (try clear hb)
       (try clear hkp)
       (try clear ho0)
       refine hK.out _ _ trivial (fun hHeld => ?_)
       clear hK K
       refine norm_ (a' := ?_) ?_ ?_
       rotate_left
       ·show Act.put _ (some 68) _ = _
        simp only [Act.put, List.setIfInBounds_toArray, List.set_cons_zero, List.set_cons_succ, i64_w, i32_w]
        rfl
       refine pure_ (i := 11) (N := some 57) (v := ?_) (a' := ?_) #[true, true, true, true, true, true, true, true, true, true, true, true, false, false, false, false] rfl rfl (any_of HT_.out (by kernel_rfl)) (fun _ _ _ h => h) (Or.inl ⟨by rfl, ?_⟩) ?_ ?_
       rotate_left
       ·intro w'
        go_simp
        with_reducible rfl
       rotate_left
       ·simp only [Act.put, List.setIfInBounds_toArray, List.set_cons_zero, List.set_cons_succ, i64_w, i32_w]
        rfl
       refine pure_ (i := 12) (N := some 69) (v := ?_) (a' := ?_) #[true, true, true, true, true, true, true, true, true, true, true, true, true, false, false, false] rfl rfl (any_of HT_.out (by kernel_rfl)) (fun _ _ _ h => h) (Or.inl ⟨by rfl, ?_⟩) ?_ ?_
       rotate_left
       ·intro w'
        go_simp
        with_reducible rfl
       rotate_left
       ·simp only [Act.put, List.setIfInBounds_toArray, List.set_cons_zero, List.set_cons_succ, i64_w, i32_w]
        rfl
       refine pure_ (i := 13) (N := some 70) (v := ?_) (a' := ?_) #[true, true, true, true, true, true, true, true, true, true, true, true, true, true, false, false] rfl rfl (any_of HT_.out (by kernel_rfl)) (fun _ _ _ h => h) (Or.inl ⟨by rfl, ?_⟩) ?_ ?_
       rotate_left
       ·intro w'
        go_simp
        with_reducible rfl
       rotate_left
       ·simp only [Act.put, List.setIfInBounds_toArray, List.set_cons_zero, List.set_cons_succ, i64_w, i32_w]
        rfl
       refine pure_ (i := 14) (N := some 11) (v := ?_) (a' := ?_) #[true, true, true, true, true, true, true, true, true, true, true, true, true, true, true, false] rfl rfl (any_of HT_.out (by kernel_rfl)) (fun _ _ _ h => h) (Or.inl ⟨by rfl, ?_⟩) ?_ ?_
       rotate_left
       ·intro w'
        go_simp
        with_reducible rfl
       rotate_left
       ·simp only [Act.put, List.setIfInBounds_toArray, List.set_cons_zero, List.set_cons_succ, i64_w, i32_w]
        rfl
       refine pure_ (i := 15) (N := some 12) (v := ?_) (a' := ?_) #[true, true, true, true, true, true, true, true, true, true, true, true, true, true, true, true] rfl rfl (any_of HT_.out (by kernel_rfl)) (fun _ _ _ h => h) (Or.inl ⟨by rfl, ?_⟩) ?_ ?_
       rotate_left
       ·intro w'
        go_simp
        with_reducible rfl
       rotate_left
       ·simp only [Act.put, List.setIfInBounds_toArray, List.set_cons_zero, List.set_cons_succ, i64_w, i32_w]
        rfl
       refine done_ (done_of HT_.out (by kernel_rfl)) ?_
       try go_wp2
       go_ret2
       exact ⟨_, by first | rfl | (simp [errW_none, errW_some] <;> rfl) | (simp only [← hji17, ← hji30]; first | rfl | (simp [errW_none, errW_some] <;> rfl)) | (simp [*, errW_none, errW_some] <;> rfl), by (with_reducible repeat (first | apply Kd.R_alloc | apply Kd.R_drewN | apply Kd.R_drew)); exact Kd.R_mono HO403.out (fun _ hk => hk.1), atB HB, by repeat (first | (with_reducible first | exact HK.out | apply Kept.alloc | apply Kept.drewN | apply Kept.drew) | exact HK.out)⟩
      ·replace c32 := Bool.eq_false_iff.mpr c32
       subst c32
       replace H := if_ H
       have H' := Aside0.mk H
       clear H
       try go_wp2
       have n0_ := Aside0.mk (Kd.R_drew HO_1.out)
       have n1_ := Aside0.mk (Kept.drew HK.out)
       have n2_ := Aside0.mk (below_drew1 HB.out)
       clear HO_1
       clear HK
       clear HB
       have HO_1 := n0_
       have HK := n1_
       have HB := n2_
       clear n0_ n1_ n2_
       refine start_ (n := 16) (S := fun w' => True) (ds := []) #[false, false, false, false, false, false, false, false, false, false, false, false, false, false, false, false] (by kernel_rfl) rfl rfl trivial (fun hHeld => ?_); refine with_tabW Zan.tab9 Zan.bits9 (fun HT_ HW_ => ?_)
       generalize wc.drew = w42 at HO_1 HK HB hHeld ⊢
       refine pure_ (i := 0) (N := some 58) (v := ?_) (a' := ?_) #[true, false, false, false, false, false, false, false, false, false, false, false, false, false, false, false] rfl rfl (any_of HT_.out (by kernel_rfl)) (fun _ _ _ h => h) (Or.inl ⟨by rfl, ?_⟩) ?_ ?_
       rotate_left
       ·intro w'
        go_simp
        with_reducible rfl
       rotate_left
       ·simp only [Act.put, List.setIfInBounds_toArray, List.set_cons_zero, List.set_cons_succ, i64_w, i32_w]
        rfl
       refine pure_ (i := 1) (N := some 59) (v := ?_) (a' := ?_) #[true, true, false, false, false, false, false, false, false, false, false, false, false, false, false, false] rfl rfl (any_of HT_.out (by kernel_rfl)) (fun _ _ _ h => h) (Or.inl ⟨by rfl, ?_⟩) ?_ ?_
       rotate_left
       ·intro w'
        go_simp
        with_reducible rfl
       rotate_left
       ·simp only [Act.put, List.setIfInBounds_toArray, List.set_cons_zero, List.set_cons_succ, i64_w, i32_w]
        rfl
       refine pure_ (i := 3) (N := some 61) (v := ?_) (a' := ?_) #[true, true, false, true, false, false, false, false, false, false, false, false, false, false, false, false] rfl rfl (any_of HT_.out (by kernel_rfl)) (fun _ _ _ h => h) (Or.inl ⟨by rfl, ?_⟩) ?_ ?_
       rotate_left
       ·intro w'
        go_simp
        with_reducible rfl
       rotate_left
       ·simp only [Act.put, List.setIfInBounds_toArray, List.set_cons_zero, List.set_cons_succ, i64_w, i32_w]
        rfl
       refine pure_ (i := 6) (N := some 64) (v := ?_) (a' := ?_) #[true, true, false, true, false, false, true, false, false, false, false, false, false, false, false, false] rfl rfl (any_of HT_.out (by kernel_rfl)) (fun _ _ _ h => h) (Or.inl ⟨by rfl, ?_⟩) ?_ ?_
       rotate_left
       ·intro w'
        go_simp
        with_reducible rfl
       rotate_left
       ·simp only [Act.put, List.setIfInBounds_toArray, List.set_cons_zero, List.set_cons_succ, i64_w, i32_w]
        rfl
       refine pure_ (i := 7) (N := some 65) (v := ?_) (a' := ?_) #[true, true, false, true, false, false, true, true, false, false, false, false, false, false, false, false] rfl rfl (any_of HT_.out (by kernel_rfl)) (fun _ _ _ h => h) (Or.inl ⟨by rfl, ?_⟩) ?_ ?_
       rotate_left
       ·intro w'
        go_simp
        with_reducible rfl
       rotate_left
       ·simp only [Act.put, List.setIfInBounds_toArray, List.set_cons_zero, List.set_cons_succ, i64_w, i32_w]
        rfl
       refine pure_ (i := 8) (N := some 66) (v := ?_) (a' := ?_) #[true, true, false, true, false, false, true, true, true, false, false, false, false, false, false, false] rfl rfl (any_of HT_.out (by kernel_rfl)) (fun _ _ _ h => h) (Or.inl ⟨by rfl, ?_⟩) ?_ ?_
       rotate_left
       ·intro w'
        go_simp
        with_reducible rfl
       rotate_left
       ·simp only [Act.put, List.setIfInBounds_toArray, List.set_cons_zero, List.set_cons_succ, i64_w, i32_w]
        rfl
       refine pure_ (i := 9) (N := some 67) (v := ?_) (a' := ?_) #[true, true, false, true, false, false, true, true, true, true, false, false, false, false, false, false] rfl rfl (any_of HT_.out (by kernel_rfl)) (fun _ _ _ h => h) (Or.inl ⟨by rfl, ?_⟩) ?_ ?_
       rotate_left
       ·intro w'
        go_simp
        with_reducible rfl
       rotate_left
       ·simp only [Act.put, List.setIfInBounds_toArray, List.set_cons_zero, List.set_cons_succ, i64_w, i32_w]
        rfl
       refine join_ (σ := Value × Value) 7 #[true, true, true, true, true, false, true, true, true, true, false, false, false, false, false, false] (fun s_ => [(60, s_.1), (62, s_.2)]) (fun s_ w' => (Kd.R (Kd.int .i64) 3 w' w0.heap.size (fun k_ => (P1_ k_ ∨ w.heap.size ≤ k_) ∧ some k_ ≠ (s_.2 : Value).ownBlock ∧ some k_ ≠ (.slice (some ad389) l1.length co15 : Value).ownBlock) s_.1 t392) ∧ (Kd.R (Kd.int .i64) 3 w' w0.heap.size (fun k_ => (P1_ k_ ∨ w.heap.size ≤ k_) ∧ some k_ ≠ (s_.1 : Value).ownBlock ∧ some k_ ≠ (.slice (some ad389) l1.length co15 : Value).ownBlock) s_.2 y395) ∧ (Kd.R (Kd.int .i64) 3 w' w0.heap.size (fun k_ => (P1_ k_ ∨ w.heap.size ≤ k_) ∧ some k_ ≠ (s_.1 : Value).ownBlock ∧ some k_ ≠ (s_.2 : Value).ownBlock) (.slice (some ad389) l1.length co15) l1) ∧ (Kept w w' (fun k_ => P1_ k_)) ∧ (Below w0.heap.size w0 w')) ?_ ?_
       rotate_left
       ·intro hCont
        refine two_ (i := 2) (j := 4) (Ni := some 60) (Nj := some 62) #[true, true, true, true, false, false, true, true, true, true, false, false, false, false, false, false] #[true, true, false, true, true, false, true, true, true, true, false, false, false, false, false, false] rfl rfl rfl rfl (two_of HT_.out (by kernel_rfl)) (by decide) (by decide) (fun K hK => ?_) (fun K hK => ?_)
        ·skip
         refine goes_ Try.func69 (by kernel_rfl) rfl #[.slice (some ad389) l1.length co15] (by rfl) rfl rfl (by (try simp only [List.map_toArray, List.map_cons, List.map_nil]); first | done | rfl | (simp only [List.length_drop, List.length_take]; rfl)) ?_
         with_reducible refine (Zcf.calls _ _ l1 t392 _ ?side1 ?side2 A27.out).mono ?_
         (case side1 => exact atRC HO_1)
         (case side2 => exact (Kd.R_reads' HO_1.out).2.1)
         rintro e w43 ⟨v393, rfl, ho0, hb⟩
         refine ⟨_, rfl, ?_⟩
         have n0_ := eldRR HO_1 ho0 hb
         have n1_ := Aside0.mk (Kd.R_lower (Kd.R_new' (Kd.R_newM (M := fun k_ => (P1_ k_ ∨ w.heap.size ≤ k_)) ho0 (by first | exact HK.out.1 | exact (show Kept w _ (fun k_ => P1_ k_) from by repeat (first | (with_reducible first | exact HK.out | apply Kept.alloc | apply Kept.drewN | apply Kept.drew) | exact HK.out)).1) (fun k_ h_ => .inr h_)) (ltR HO_1)) (szB HB))
         have n2_ := Aside0.mk (Kept.below (S := (fun k_ => P1_ k_)) (by repeat (first | (with_reducible first | exact HK.out | apply Kept.alloc | apply Kept.drewN | apply Kept.drew) | exact HK.out)) hb)
         have n3_ := upB HB hb
         clear HO_1
         clear HK
         clear HB
         have HO_1 := n0_
         have HO394 := n1_
         have HK := n2_
         have HB := n3_
         clear n0_ n1_ n2_ n3_
         (try clear hb)
         (try clear hb2)
         (try clear hk)
         (try clear hi)
         (try clear ho0)
         refine hK.out _ _ trivial (fun hHeld => ?_)
         clear hK K
         refine norm_ (a' := ?_) ?_ ?_
         rotate_left
         ·show Act.put _ (some 60) _ = _
          simp only [Act.put, List.setIfInBounds_toArray, List.set_cons_zero, List.set_cons_succ, i64_w, i32_w]
          rfl
         refine one_ (i := 4) (N := some 62) #[true, true, true, true, true, false, true, true, true, true, false, false, false, false, false, false] rfl rfl (one_of HT_.out (by kernel_rfl)) (by decide) (fun K hK => ?_)
         refine Kd.R_lit_step (Kd.int .i64) _ 3 ?hg (N := 62) ?hd (xs := ([x9_1] : List Int)) (inner := [.int .i64 x9_1]) (ok := fun _ => True) (okp := fun _ => True) ?hr ?hp (fun _ hk => hk) trivial (Below.refl _ _) (Nat.le_refl _) (by simp) ?_; (case hd => rfl); (case hg => rfl); (case hr => first | (go_simp; done) | (go_simp; rfl)); (case hp => exact (Reps.one (show Kd.M (Kd.int .i64) _ _ _ x9_1 [.int .i64 x9_1] from rfl) (Reps.none _ _)))
         intro v396 w44 ho45 hb hg_ hnew_
         clear hg_ hnew_
         (first | rw [← Ny395.out] at ho45 | (simp only [Int.reduceToNat] at ho45; rw [← Ny395.out] at ho45))
         have n0_ := eldRR HO_1 ho45 hb
         have n1_ := eldRR HO394 ho45 hb
         have n2_ := Aside0.mk (Kd.R_lower (Kd.R_new' (Kd.R_new' (Kd.R_newM (M := fun k_ => (P1_ k_ ∨ w.heap.size ≤ k_)) ho45 (by first | exact HK.out.1 | exact (show Kept w _ (fun k_ => P1_ k_) from by repeat (first | (with_reducible first | exact HK.out | apply Kept.alloc | apply Kept.drewN | apply Kept.drew) | exact HK.out)).1) (fun k_ h_ => .inr h_)) (ltR HO_1)) (ltR HO394)) (szB HB))
         have n3_ := Aside0.mk (Kept.below (S := (fun k_ => P1_ k_)) (by repeat (first | (with_reducible first | exact HK.out | apply Kept.alloc | apply Kept.drewN | apply Kept.drew) | exact HK.out)) hb)
         have n4_ := upB HB hb
         clear HO_1
         clear HO394
         clear HK
         clear HB
         have HO_1 := n0_
         have HO394 := n1_
         have HO397 := n2_
         have HK := n3_
         have HB := n4_
         clear n0_ n1_ n2_ n3_ n4_
         clear hb ho45
         refine hK.out _ _ trivial (fun hHeld => ?_)
         clear hK K
         refine norm_ (a' := ?_) ?_ ?_
         rotate_left
         ·show Act.put _ (some 62) _ = _
          simp only [Act.put, List.setIfInBounds_toArray, List.set_cons_zero, List.set_cons_succ, i64_w, i32_w]
          rfl
         exact norm_ (by simp only [putAll, Act.put, List.setIfInBounds_toArray, List.set_cons_zero, List.set_cons_succ]) (hCont (v393, v396) _ ⟨(by (with_reducible repeat (first | apply Kd.R_alloc | apply Kd.R_drewN | apply Kd.R_drew)); exact Kd.R_mono HO394.out (fun _ hk => ⟨hk.1.1.1, ⟨hk.2, hk.1.2⟩⟩)), (by (with_reducible repeat (first | apply Kd.R_alloc | apply Kd.R_drewN | apply Kd.R_drew)); exact Kd.R_mono HO397.out (fun _ hk => ⟨hk.1.1.1, ⟨hk.2, hk.1.2⟩⟩)), (by (with_reducible repeat (first | apply Kd.R_alloc | apply Kd.R_drewN | apply Kd.R_drew)); exact Kd.R_mono HO_1.out (fun _ hk => ⟨hk.1.1, ⟨hk.1.2, hk.2⟩⟩)), (by repeat (first | (with_reducible first | exact HK.out | apply Kept.alloc | apply Kept.drewN | apply Kept.drew) | exact HK.out)), (atB HB)⟩)
        ·skip
         refine Kd.R_lit_step (Kd.int .i64) _ 3 ?hg (N := 62) ?hd (xs := ([x9_1] : List Int)) (inner := [.int .i64 x9_1]) (ok := fun _ => True) (okp := fun _ => True) ?hr ?hp (fun _ hk => hk) trivial (Below.refl _ _) (Nat.le_refl _) (by simp) ?_; (case hd => rfl); (case hg => rfl); (case hr => first | (go_simp; done) | (go_simp; rfl)); (case hp => exact (Reps.one (show Kd.M (Kd.int .i64) _ _ _ x9_1 [.int .i64 x9_1] from rfl) (Reps.none _ _)))
         intro v396 w43 ho44 hb hg_ hnew_
         clear hg_ hnew_
         (first | rw [← Ny395.out] at ho44 | (simp only [Int.reduceToNat] at ho44; rw [← Ny395.out] at ho44))
         have n0_ := eldRR HO_1 ho44 hb
         have n1_ := Aside0.mk (Kd.R_lower (Kd.R_new' (Kd.R_newM (M := fun k_ => (P1_ k_ ∨ w.heap.size ≤ k_)) ho44 (by first | exact HK.out.1 | exact (show Kept w _ (fun k_ => P1_ k_) from by repeat (first | (with_reducible first | exact HK.out | apply Kept.alloc | apply Kept.drewN | apply Kept.drew) | exact HK.out)).1) (fun k_ h_ => .inr h_)) (ltR HO_1)) (szB HB))
         have n2_ := Aside0.mk (Kept.below (S := (fun k_ => P1_ k_)) (by repeat (first | (with_reducible first | exact HK.out | apply Kept.alloc | apply Kept.drewN | apply Kept.drew) | exact HK.out)) hb)
         have n3_ := upB HB hb
         clear HO_1
         clear HK
         clear HB
         have HO_1 := n0_
         have HO397 := n1_
         have HK := n2_
         have HB := n3_
         clear n0_ n1_ n2_ n3_
         clear hb ho44
         refine hK.out _ _ trivial (fun hHeld => ?_)
         clear hK K
         refine norm_ (a' := ?_) ?_ ?_
         rotate_left
         ·show Act.put _ (some 62) _ = _
          simp only [Act.put, List.setIfInBounds_toArray, List.set_cons_zero, List.set_cons_succ, i64_w, i32_w]
          rfl
         refine one_ (i := 2) (N := some 60) #[true, true, true, true, true, false, true, true, true, true, false, false, false, false, false, false] rfl rfl (one_of HT_.out (by kernel_rfl)) (by decide) (fun K hK => ?_)
         refine goes_ Try.func69 (by kernel_rfl) rfl #[.slice (some ad389) l1.length co15] (by rfl) rfl rfl (by (try simp only [List.map_toArray, List.map_cons, List.map_nil]); first | done | rfl | (simp only [List.length_drop, List.length_take]; rfl)) ?_
         with_reducible refine (Zcf.calls _ _ l1 t392 _ ?side1 ?side2 A27.out).mono ?_
         (case side1 => exact atRC HO_1)
         (case side2 => exact (Kd.R_reads' HO_1.out).2.1)
         rintro e w45 ⟨v393, rfl, ho0, hb⟩
         refine ⟨_, rfl, ?_⟩
         have n0_ := eldRR HO_1 ho0 hb
         have n1_ := eldRR HO397 ho0 hb
         have n2_ := Aside0.mk (Kd.R_lower (Kd.R_new' (Kd.R_new' (Kd.R_newM (M := fun k_ => (P1_ k_ ∨ w.heap.size ≤ k_)) ho0 (by first | exact HK.out.1 | exact (show Kept w _ (fun k_ => P1_ k_) from by repeat (first | (with_reducible first | exact HK.out | apply Kept.alloc | apply Kept.drewN | apply Kept.drew) | exact HK.out)).1) (fun k_ h_ => .inr h_)) (ltR HO_1)) (ltR HO397)) (szB HB))
         have n3_ := Aside0.mk (Kept.below (S := (fun k_ => P1_ k_)) (by repeat (first | (with_reducible first | exact HK.out | apply Kept.alloc | apply Kept.drewN | apply Kept.drew) | exact HK.out)) hb)
         have n4_ := upB HB hb
         clear HO_1
         clear HO397
         clear HK
         clear HB
         have HO_1 := n0_
         have HO397 := n1_
         have HO394 := n2_
         have HK := n3_
         have HB := n4_
         clear n0_ n1_ n2_ n3_ n4_
         (try clear hb)
         (try clear hb2)
         (try clear hk)
         (try clear hi)
         (try clear ho0)
         refine hK.out _ _ trivial (fun hHeld => ?_)
         clear hK K
         refine norm_ (a' := ?_) ?_ ?_
         rotate_left
         ·show Act.put _ (some 60) _ = _
          simp only [Act.put, List.setIfInBounds_toArray, List.set_cons_zero, List.set_cons_succ, i64_w, i32_w]
          rfl
         exact norm_ (by simp only [putAll, Act.put, List.setIfInBounds_toArray, List.set_cons_zero, List.set_cons_succ]) (hCont (v393, v396) _ ⟨(by (with_reducible repeat (first | apply Kd.R_alloc | apply Kd.R_drewN | apply Kd.R_drew)); exact Kd.R_mono HO394.out (fun _ hk => ⟨hk.1.1.1, ⟨hk.2, hk.1.2⟩⟩)), (by (with_reducible repeat (first | apply Kd.R_alloc | apply Kd.R_drewN | apply Kd.R_drew)); exact Kd.R_mono HO397.out (fun _ hk => ⟨hk.1.1.1, ⟨hk.2, hk.1.2⟩⟩)), (by (with_reducible repeat (first | apply Kd.R_alloc | apply Kd.R_drewN | apply Kd.R_drew)); exact Kd.R_mono HO_1.out (fun _ hk => ⟨hk.1.1, ⟨hk.2, hk.1.2⟩⟩)), (by repeat (first | (with_reducible first | exact HK.out | apply Kept.alloc | apply Kept.drewN | apply Kept.drew) | exact HK.out)), (atB HB)⟩)
       rintro ⟨v393, v396⟩ w46 ⟨h0_, h1_, h2_, h3_, h4_⟩
       have n0_ : Aside0 (Kd.R (Kd.int .i64) 3 w46 w0.heap.size (fun k_ => (P1_ k_ ∨ w.heap.size ≤ k_) ∧ some k_ ≠ (v396 : Value).ownBlock ∧ some k_ ≠ (.slice (some ad389) l1.length co15 : Value).ownBlock) v393 t392) := ⟨h0_⟩
       have n1_ : Aside0 (Kd.R (Kd.int .i64) 3 w46 w0.heap.size (fun k_ => (P1_ k_ ∨ w.heap.size ≤ k_) ∧ some k_ ≠ (v393 : Value).ownBlock ∧ some k_ ≠ (.slice (some ad389) l1.length co15 : Value).ownBlock) v396 y395) := ⟨h1_⟩
       have n2_ : Aside0 (Kd.R (Kd.int .i64) 3 w46 w0.heap.size (fun k_ => (P1_ k_ ∨ w.heap.size ≤ k_) ∧ some k_ ≠ (v393 : Value).ownBlock ∧ some k_ ≠ (v396 : Value).ownBlock) (.slice (some ad389) l1.length co15) l1) := ⟨h2_⟩
       have n3_ : Aside0 (Kept w w46 (fun k_ => P1_ k_)) := ⟨h3_⟩
       have n4_ : Aside0 (Below w0.heap.size w0 w46) := ⟨h4_⟩
       clear HO_1
       clear HK
       clear HB
       clear h0_ h1_ h2_ h3_ h4_
       have HO394 := n0_
       have HO397 := n1_
       have HO_1 := n2_
       have HK := n3_
       have HB := n4_
       clear n0_ n1_ n2_ n3_ n4_
       have hHeld := trivial
       obtain ⟨Ao48, co48, eo48⟩ := Kd.R_slice HO397.out
       (first | subst eo48 | (injection eo48 with f1_ f2_ f3_; have f4_ := f1_.symm; have f5_ := f3_.symm; clear f1_ f2_ f3_; subst f4_; subst f5_))
       refine norm_ (a' := ?_) ?_ ?_
       rotate_left
       ·simp only [putAll, Act.put, List.setIfInBounds_toArray, List.set_cons_zero, List.set_cons_succ]
        rfl
       refine one_ (i := 5) (N := some 63) #[true, true, true, true, true, true, true, true, true, true, false, false, false, false, false, false] rfl rfl (one_of HT_.out (by kernel_rfl)) (by decide) (fun K hK => ?_)
       refine Kd.R_append_rows_step (Kd.int .i64) (w0 := w0) w0.heap.size (by rfl) (.tmp 60) (.tmp 62) 24 3 (.int .i64 0) 8 rfl Try.underlying24 info3 rfl (by decide) (by omega) v393 t392 y395 _ _ _ (fun k_ => (P1_ k_ ∨ w.heap.size ≤ k_) ∧ some k_ ≠ (.slice (some ad389) l1.length co15 : Value).ownBlock ∧ some k_ ≠ (.slice Ao48 y395.length co48 : Value).ownBlock) (fun _ => False) rfl rfl ?aO ?aR (fun _ _ h => h) (fun _ h => h.elim) ?aF ?aB ?aS ?aL ?_
       (case aR => exact atRC HO397)
       (case aB => exact (atB HB))
       (case aF => exact (fun k_ hk => ⟨(.inr (Nat.le_trans (by first | exact HK.out.1 | exact (show Kept w _ (fun k_ => P1_ k_) from by repeat (first | (with_reducible first | exact HK.out | apply Kept.alloc | apply Kept.drewN | apply Kept.drew) | exact HK.out)).1) hk)), Kd.fresh' (ltR HO_1) k_ hk, Kd.fresh' (ltR HO397) k_ hk⟩))
       (case aO => exact (by (with_reducible repeat (first | apply Kd.R_alloc | apply Kd.R_drewN | apply Kd.R_drew)); exact Kd.R_mono HO394.out (fun _ hk => ⟨hk.1, ⟨hk.2.2, hk.2.1⟩⟩)))
       (case aS => exact (szB HB))
       (case aL => have := LMc28.out; omega)
       intro v399 w47 ho hb hg hat
       rw [← Ny398.out] at ho
       have n0_ := Aside0.mk (Kd.R_after (ok := (fun k_ => (P1_ k_ ∨ w.heap.size ≤ k_) ∧ some k_ ≠ (.slice Ao48 y395.length co48 : Value).ownBlock)) (by (with_reducible repeat (first | apply Kd.R_alloc | apply Kd.R_drewN | apply Kd.R_drew)); exact Kd.R_mono HO_1.out (fun _ hk => ⟨⟨hk.1, hk.2.2⟩, hk.2.1⟩)) hg hat)
       have n1_ := Aside0.mk (Kd.R_after (ok := (fun k_ => (P1_ k_ ∨ w.heap.size ≤ k_) ∧ some k_ ≠ (.slice (some ad389) l1.length co15 : Value).ownBlock)) (by (with_reducible repeat (first | apply Kd.R_alloc | apply Kd.R_drewN | apply Kd.R_drew)); exact Kd.R_mono HO397.out (fun _ hk => ⟨⟨hk.1, hk.2.2⟩, hk.2.1⟩)) hg hat)
       have n2_ := Aside0.mk (hb)
       have n3_ := Aside0.mk (Kept.of_grown (S := (fun k_ => P1_ k_)) hg (by repeat (first | (with_reducible first | exact HK.out | apply Kept.alloc | apply Kept.drewN | apply Kept.drew) | exact HK.out)) (fun k_ e_ => (HO394.out.1 k_ e_).1))
       have n4_ := Aside0.mk (ho)
       clear HO_1
       clear HO397
       clear HB
       clear HK
       clear HO394
       have HO_1 := n0_
       have HO397 := n1_
       have HB := n2_
       have HK := n3_
       have HO400 := n4_
       clear n0_ n1_ n2_ n3_ n4_
       clear ho hb hg hat
       obtain ⟨Ao49, co49, eo49⟩ := Kd.R_slice HO400.out
       (first | subst eo49 | (injection eo49 with f1_ f2_ f3_; have f4_ := f1_.symm; have f5_ := f3_.symm; clear f1_ f2_ f3_; subst f4_; subst f5_))
       refine hK.out _ _ trivial (fun hHeld => ?_)
       clear hK K
       refine norm_ (a' := ?_) ?_ ?_
       rotate_left
       ·show Act.put _ (some 63) _ = _
        simp only [Act.put, List.setIfInBounds_toArray, List.set_cons_zero, List.set_cons_succ, i64_w, i32_w]
        rfl
       refine one_ (i := 10) (N := some 68) #[true, true, true, true, true, true, true, true, true, true, true, false, false, false, false, false] rfl rfl (one_of HT_.out (by kernel_rfl)) (by decide) (fun K hK => ?_)
       refine goes_ Try.func52 (by kernel_rfl) rfl #[.int .i64 a0, .slice Ao49 y398.length co49, .int .i64 (Go.bits .or .i64 a2 (ji30))] (by rfl) rfl rfl (by (try simp only [List.map_toArray, List.map_cons, List.map_nil]); first | done | (simp only [hji30]; rfl) | rfl | (simp only [List.length_drop, List.length_take]; rfl)) ?_
       with_reducible refine (ih kj20 (by have := HK1.out; have := HJ20.out; omega) a0 (fun k_ => some k_ = (.slice Ao49 y398.length co49 : Value).ownBlock) (.slice Ao49 y398.length co49) y398 (Go.bits .or .i64 a2 (ji30)) t401 false w0 _ ?side1 ?side2 A31.out).mono ?_
       (case side1 => exact atB HB)
       (case side2 => exact Kd.R_tight rfl HO400.out)
       rintro e w50 ⟨v402, rfl, ho0, hb, hkp⟩
       refine ⟨_, rfl, ?_⟩
       have n0_ := Aside0.mk (Kd.R_mono (ok' := fun k_ => (P1_ k_ ∨ w.heap.size ≤ k_) ∧ some k_ ≠ (.slice Ao48 y395.length co48 : Value).ownBlock ∧ some k_ ≠ (v402 : Value).ownBlock) (Kd.R_keptB (HO_1.out) hkp (fun k_ hk_ hs_ => (hk_.2) hs_)) (fun k_ hk_ => ⟨hk_.1.1.1, hk_.1.1.2, fun e_ => Or.elim (ho0.1 k_ e_.symm) (fun hs_ => hk_.2.1 hs_) (fun hn_ => Nat.not_le.2 hk_.2.2 hn_)⟩))
       have n1_ := Aside0.mk (Kd.R_mono (ok' := fun k_ => (P1_ k_ ∨ w.heap.size ≤ k_) ∧ some k_ ≠ (.slice (some ad389) l1.length co15 : Value).ownBlock ∧ some k_ ≠ (v402 : Value).ownBlock) (Kd.R_keptB (HO397.out) hkp (fun k_ hk_ hs_ => (hk_.2) hs_)) (fun k_ hk_ => ⟨hk_.1.1.1, hk_.1.1.2, fun e_ => Or.elim (ho0.1 k_ e_.symm) (fun hs_ => hk_.2.1 hs_) (fun hn_ => Nat.not_le.2 hk_.2.2 hn_)⟩))
       have n2_ := Aside0.mk (Kd.R_mono (ok' := fun k_ => (P1_ k_ ∨ w.heap.size ≤ k_) ∧ some k_ ≠ (.slice (some ad389) l1.length co15 : Value).ownBlock ∧ some k_ ≠ (.slice Ao48 y395.length co48 : Value).ownBlock) ho0 (fun k_ hk_ => ⟨Or.elim hk_ (fun hs_ => (HO400.out.1 k_ (hs_).symm).1) (fun hn_ => (.inr (Nat.le_trans (by first | exact HK.out.1 | exact (show Kept w _ (fun k_ => P1_ k_) from by repeat (first | (with_reducible first | exact HK.out | apply Kept.alloc | apply Kept.drewN | apply Kept.drew) | exact HK.out)).1) hn_))), Or.elim hk_ (fun hs_ => fun e_ => (((HO_1.out).1 k_ e_.symm).2) hs_) (fun hn_ => (Kd.fresh' (ltR HO_1) k_ hn_)), Or.elim hk_ (fun hs_ => fun e_ => (((HO397.out).1 k_ e_.symm).2) hs_) (fun hn_ => (Kd.fresh' (ltR HO397) k_ hn_))⟩))
       have n3_ := Aside0.mk (Kept.then_ (S := (fun k_ => P1_ k_)) (by repeat (first | (with_reducible first | exact HK.out | apply Kept.alloc | apply Kept.drewN | apply Kept.drew) | exact HK.out)) hkp (fun k_ hs_ => (fun e_ => (HO400.out.1 k_ e_.symm).1) hs_))
       have n4_ := Aside0.mk (hb)
       clear HO_1
       clear HO397
       clear HK
       clear HB
       clear HO400
       have HO_1 := n0_
       have HO397 := n1_
       have HO403 := n2_
       have HK := n3_
       have HB := n4_
       clear n0_ n1_ n2_ n3_ n4_
       (try clear hb)
       (try clear hkp)
       (try clear ho0)
       refine hK.out _ _ trivial (fun hHeld => ?_)
       clear hK K
       refine norm_ (a' := ?_) ?_ ?_
       rotate_left
       ·show Act.put _ (some 68) _ = _
        simp only [Act.put, List.setIfInBounds_toArray, List.set_cons_zero, List.set_cons_succ, i64_w, i32_w]
        rfl
       refine pure_ (i := 11) (N := some 57) (v := ?_) (a' := ?_) #[true, true, true, true, true, true, true, true, true, true, true, true, false, false, false, false] rfl rfl (any_of HT_.out (by kernel_rfl)) (fun _ _ _ h => h) (Or.inl ⟨by rfl, ?_⟩) ?_ ?_
       rotate_left
       ·intro w'
        go_simp
        with_reducible rfl
       rotate_left
       ·simp only [Act.put, List.setIfInBounds_toArray, List.set_cons_zero, List.set_cons_succ, i64_w, i32_w]
        rfl
       refine pure_ (i := 12) (N := some 69) (v := ?_) (a' := ?_) #[true, true, true, true, true, true, true, true, true, true, true, true, true, false, false, false] rfl rfl (any_of HT_.out (by kernel_rfl)) (fun _ _ _ h => h) (Or.inl ⟨by rfl, ?_⟩) ?_ ?_
       rotate_left
       ·intro w'
        go_simp
        with_reducible rfl
       rotate_left
       ·simp only [Act.put, List.setIfInBounds_toArray, List.set_cons_zero, List.set_cons_succ, i64_w, i32_w]
        rfl
       refine pure_ (i := 13) (N := some 70) (v := ?_) (a' := ?_) #[true, true, true, true, true, true, true, true, true, true, true, true, true, true, false, false] rfl rfl (any_of HT_.out (by kernel_rfl)) (fun _ _ _ h => h) (Or.inl ⟨by rfl, ?_⟩) ?_ ?_
       rotate_left
       ·intro w'
        go_simp
        with_reducible rfl
       rotate_left
       ·simp only [Act.put, List.setIfInBounds_toArray, List.set_cons_zero, List.set_cons_succ, i64_w, i32_w]
        rfl
       refine pure_ (i := 14) (N := some 11) (v := ?_) (a' := ?_) #[true, true, true, true, true, true, true, true, true, true, true, true, true, true, true, false] rfl rfl (any_of HT_.out (by kernel_rfl)) (fun _ _ _ h => h) (Or.inl ⟨by rfl, ?_⟩) ?_ ?_
       rotate_left
       ·intro w'
        go_simp
        with_reducible rfl
       rotate_left
       ·simp only [Act.put, List.setIfInBounds_toArray, List.set_cons_zero, List.set_cons_succ, i64_w, i32_w]
        rfl
       refine pure_ (i := 15) (N := some 12) (v := ?_) (a' := ?_) #[true, true, true, true, true, true, true, true, true, true, true, true, true, true, true, true] rfl rfl (any_of HT_.out (by kernel_rfl)) (fun _ _ _ h => h) (Or.inl ⟨by rfl, ?_⟩) ?_ ?_
       rotate_left
       ·intro w'
        go_simp
        with_reducible rfl
       rotate_left
       ·simp only [Act.put, List.setIfInBounds_toArray, List.set_cons_zero, List.set_cons_succ, i64_w, i32_w]
        rfl
       refine done_ (done_of HT_.out (by kernel_rfl)) ?_
       try go_wp2
       first | go_roundg kj20 | ((try subst hji30); (try subst hji17); go_roundg kj20)
       case measure => have := HK1.out; have := HJ20.out; omega
       case rel => exact ⟨(wrap64 (x9_1 + 1)), eqd, H', ⟨by have := HK1.out; have := HJ20.out; omega⟩, ⟨by (with_reducible repeat (first | apply Kd.R_alloc | apply Kd.R_drewN | apply Kd.R_drew)); exact Kd.R_mono HO_1.out (fun _ hk => hk.1)⟩, ⟨by repeat (first | (with_reducible first | exact HK.out | apply Kept.alloc | apply Kept.drewN | apply Kept.drew) | exact HK.out)⟩, ⟨atB HB⟩⟩
def Zce.f (k : Nat) (a0 : Int) : Option (List Int × Bool) := (Zcc.f a0 3 8).bind fun t405 => (if t405 = true then ((Zan.f k a0 (([0] : List Int)) 0).bind fun bt409 => (if bt409.2 = true then (some (bt409.1, true)) else (some (([] : List Int), false)))) else (some (([] : List Int), false)))
theorem Zce.mono : ∀ a0 k, LeO (Zce.f k a0) (Zce.f (k + 1) a0) := by
 intro a0 k
 unfold Zce.f
 repeat' (first | (with_reducible first | exact Zan.mono _ _ _ _ | exact LeO.refl _ | exact LeO.none _ | refine LeO.ite ?_ ?_ | refine LeO.bind ?_ (fun _ => ?_)) | exact Zan.mono _ _ _ _ | exact LeO.none _ | refine LeO.ite ?_ ?_ | refine LeO.bind ?_ (fun _ => ?_))
theorem Zce.calls (k : Nat) (a0 : Int) (r1 : List Int) (r2 : Bool) (w : World) (h : Zce.f k a0 = some (r1, r2)) :
  Calls Try.prog 25 #[.int .i64 a0] w fun e w' => ∃ v0_ : Value, e = .returned (.tuple #[v0_, .bool r2]) ∧ Kd.R (Kd.int .i64) 3 w' w.heap.size (fun _ => True) v0_ r1 ∧ Below w.heap.size w w' := by
 have HB := Aside0.mk (Below.refl w.heap.size w)
 have H := h
 unfold Zce.f at H
 clear h
 obtain ⟨t405, A2, H⟩ := bs_ H
 (try dsimp only at H)
 by_cases c3 : t405 = true
 rotate_left
 ·replace c3 := Bool.eq_false_iff.mpr c3
  subst c3
  replace H := if_ H
  simp only [Option.some.injEq, Prod.mk.injEq] at H
  obtain ⟨rfl, rfl⟩ := H
  go_enter Try.func25, Try.ntmps25
  go_wp2_with (first | ((with_reducible refine gate_callee (f := 44) rfl ?_); refine goesA (some 7) Try.func44 #[.int .i64 a0, .int .i64 3, .int .i64 8] ?_; (with_reducible refine (Zcc.calls a0 3 8 false _ A2.out).mono ?_); rintro e w' ⟨rfl, ⟨nd, rfl⟩⟩; refine ⟨_, rfl, ?_⟩))
  go_ret2
  exact ⟨_, eqr, by first | exact Kd.R_nil _ _ _ _ _ | exact Kd.N_nil _ _ _ _ _ | exact Kd.V_nil _ _ _ _ _ | exact Kd.Q_nil _ _ _ _ _ | exact Kd.S_nil _ _ _ _ _, atB HB⟩
 subst c3
 replace H := it_ H
 obtain ⟨y406, hy406⟩ : ∃ y_ : List Int, y_ = (([0] : List Int)) := ⟨_, rfl⟩
 replace H : ((Zan.f k a0 y406 0).bind fun bt409 => (if bt409.2 = true then (some (bt409.1, true)) else (some (([] : List Int), false)))) = some (r1, r2) := by first | (rw [hy406]; with_reducible exact H) | (have H2_ := (Option.bind_some _ _).symm.trans H; rw [hy406]; with_reducible exact H2_) | (have H2_ := (Option.bind_some _ _).symm.trans H; with_reducible exact H2_) | with_reducible exact H | (rw [hy406]; exact H) | exact H
 have Ny406 := Aside0.mk hy406
 clear hy406
 replace H := Option.bind_eq_some_iff.mp H
 obtain ⟨⟨t409, t412⟩, A40, H⟩ := H
 replace H : (if t412 = true then (some (t409, true)) else (some (([] : List Int), false))) = some (r1, r2) := H
 have A4 := Aside0.mk A40
 clear A40
 by_cases c5 : t412 = true
 rotate_left
 ·replace c5 := Bool.eq_false_iff.mpr c5
  subst c5
  replace H := if_ H
  simp only [Option.some.injEq, Prod.mk.injEq] at H
  obtain ⟨rfl, rfl⟩ := H
  go_enter Try.func25, Try.ntmps25
  go_wp2_with (first | ((with_reducible refine gate_callee (f := 44) rfl ?_); refine goesA (some 7) Try.func44 #[.int .i64 a0, .int .i64 3, .int .i64 8] ?_; (with_reducible refine (Zcc.calls a0 3 8 true _ A2.out).mono ?_); rintro e w' ⟨rfl, ⟨nd, rfl⟩⟩; refine ⟨_, rfl, ?_⟩) | ((with_reducible refine gate_dst (N := 11) rfl ?_); refine Kd.R_lit (Kd.int .i64) _ 3 ?hg (N := 11) ?hd (xs := ([0] : List Int)) (inner := [.int .i64 0]) (ok := fun _ => True) (okp := fun _ => True) ?hr ?hp (fun _ hk => hk) trivial (Below.refl _ _) (Nat.le_refl _) (by simp) ?_; (case hd => rfl); (case hg => rfl); (case hr => first | (go_simp; done) | (go_simp; rfl)); (case hp => exact repsI _); intro v407 w10 ho11 hb hg_ hnew_; clear hg_ hnew_; (first | rw [← Ny406.out] at ho11 | (simp only [Int.reduceToNat] at ho11; rw [← Ny406.out] at ho11)); have HO408 := lowR ho11 HB; replace HB := upB HB hb; clear hb ho11; obtain ⟨Ao12, co12, eo12⟩ := Kd.R_slice HO408.out; subst eo12) | ((with_reducible refine gate_callee (f := 52) rfl ?_); refine goesA (some 12) Try.func52 #[.int .i64 a0, .slice Ao12 y406.length co12, .int .i64 0] ?_; (with_reducible refine (Zan.calls k a0 (fun k_ => some k_ = (.slice Ao12 y406.length co12 : Value).ownBlock) (.slice Ao12 y406.length co12) y406 0 t409 false w _ ?side1 ?side2 A4.out).mono ?_); (case side1 => exact atB HB); (case side2 => exact Kd.R_tight rfl HO408.out); rintro e w13 ⟨v410, rfl, ho0, hb, hkp⟩; refine ⟨_, rfl, ?_⟩; have HO411 := Aside0.mk (Kd.R_mono (ok' := fun k_ => True) ho0 (fun k_ hk_ => trivial)); replace HB := Aside0.mk (hb); clear HO408; (try clear hkp)))
  go_ret2
  exact ⟨_, eqr, by first | exact Kd.R_nil _ _ _ _ _ | exact Kd.N_nil _ _ _ _ _ | exact Kd.V_nil _ _ _ _ _ | exact Kd.Q_nil _ _ _ _ _ | exact Kd.S_nil _ _ _ _ _, atB HB⟩
 subst c5
 replace H := it_ H
 simp only [Option.some.injEq, Prod.mk.injEq] at H
 obtain ⟨rfl, rfl⟩ := H
 go_enter Try.func25, Try.ntmps25
 go_wp2_with (first | ((with_reducible refine gate_callee (f := 44) rfl ?_); refine goesA (some 7) Try.func44 #[.int .i64 a0, .int .i64 3, .int .i64 8] ?_; (with_reducible refine (Zcc.calls a0 3 8 true _ A2.out).mono ?_); rintro e w' ⟨rfl, ⟨nd, rfl⟩⟩; refine ⟨_, rfl, ?_⟩) | ((with_reducible refine gate_dst (N := 11) rfl ?_); refine Kd.R_lit (Kd.int .i64) _ 3 ?hg (N := 11) ?hd (xs := ([0] : List Int)) (inner := [.int .i64 0]) (ok := fun _ => True) (okp := fun _ => True) ?hr ?hp (fun _ hk => hk) trivial (Below.refl _ _) (Nat.le_refl _) (by simp) ?_; (case hd => rfl); (case hg => rfl); (case hr => first | (go_simp; done) | (go_simp; rfl)); (case hp => exact repsI _); intro v407 w6 ho7 hb hg_ hnew_; clear hg_ hnew_; (first | rw [← Ny406.out] at ho7 | (simp only [Int.reduceToNat] at ho7; rw [← Ny406.out] at ho7)); have HO408 := lowR ho7 HB; replace HB := upB HB hb; clear hb ho7; obtain ⟨Ao8, co8, eo8⟩ := Kd.R_slice HO408.out; subst eo8) | ((with_reducible refine gate_callee (f := 52) rfl ?_); refine goesA (some 12) Try.func52 #[.int .i64 a0, .slice Ao8 y406.length co8, .int .i64 0] ?_; (with_reducible refine (Zan.calls k a0 (fun k_ => some k_ = (.slice Ao8 y406.length co8 : Value).ownBlock) (.slice Ao8 y406.length co8) y406 0 t409 true w _ ?side1 ?side2 A4.out).mono ?_); (case side1 => exact atB HB); (case side2 => exact Kd.R_tight rfl HO408.out); rintro e w9 ⟨v410, rfl, ho0, hb, hkp⟩; refine ⟨_, rfl, ?_⟩; have HO411 := Aside0.mk (Kd.R_mono (ok' := fun k_ => True) ho0 (fun k_ hk_ => trivial)); replace HB := Aside0.mk (hb); clear HO408; (try clear hkp)))
 go_ret2
 exact ⟨_, eqr, atR HO411, atB HB⟩
noncomputable def Zce.F (a0 : Int) : Option (List Int × Bool) := lim fun k => Zce.f k a0
theorem Zce.F_lim (a0 : Int) : Lim (fun k => Zce.f k a0) (Zce.F a0) := Lim.of fun k => Zce.mono a0 k
def Zco.f (l0 : List Int) : Option (Int) := (Zat.f l0 0 0 8).bind fun bt414 => (if bt414.1 = true then ((Zbi.f l0 bt414.2.1 bt414.2.2 (([2, 3, 1000, 1001, (-1)] : List Int))).bind fun bt420 => (some bt420.1)) else ((Zac.f l0 bt414.2.1 bt414.2.2 40).bind fun bt423 => (some (wrap64 (3 + bt423.1)))))
theorem Zco.calls (A0 : Option Addr) (c0 : Nat) (l0 : List Int) (r : Int) (w : World) (hr0 : Kd.C (Kd.int .u8) w A0 l0.length l0) (hc0 : l0.length ≤ c0) (h : Zco.f l0 = some r) :
  Calls Try.prog 27 #[.slice A0 l0.length c0] w fun e w' => e = .returned (.int .i64 r) ∧ Below w.heap.size w w' := by
 have hu48 := Try.underlying48
 have HR0 := Aside0.mk hr0
 have HC0 := Aside0.mk hc0
 clear hr0 hc0
 have HB := Aside0.mk (Below.refl w.heap.size w)
 have H := h
 unfold Zco.f at H
 clear h
 replace H := Option.bind_eq_some_iff.mp H
 obtain ⟨⟨t414, t415, t416⟩, A20, H⟩ := H
 replace H : (if t414 = true then ((Zbi.f l0 t415 t416 (([2, 3, 1000, 1001, (-1)] : List Int))).bind fun bt420 => (some bt420.1)) else ((Zac.f l0 t415 t416 40).bind fun bt423 => (some (wrap64 (3 + bt423.1))))) = some r := H
 have A2 := Aside0.mk A20
 clear A20
 by_cases c3 : t414 = true
 ·subst c3
  replace H := it_ H
  obtain ⟨y417, hy417⟩ : ∃ y_ : List Int, y_ = (([2, 3, 1000, 1001, (-1)] : List Int)) := ⟨_, rfl⟩
  replace H : ((Zbi.f l0 t415 t416 y417).bind fun bt420 => (some bt420.1)) = some r := by first | (rw [hy417]; with_reducible exact H) | (have H2_ := (Option.bind_some _ _).symm.trans H; rw [hy417]; with_reducible exact H2_) | (have H2_ := (Option.bind_some _ _).symm.trans H; with_reducible exact H2_) | with_reducible exact H | (rw [hy417]; exact H) | exact H
  have Ny417 := Aside0.mk hy417
  clear hy417
  replace H := Option.bind_eq_some_iff.mp H
  obtain ⟨⟨t420, t421, t422⟩, A40, H⟩ := H
  replace H : (some t420) = some r := H
  have A4 := Aside0.mk A40
  clear A40
  obtain rfl := Option.some.inj H
  go_enter Try.func27, Try.ntmps27
  go_wp2_with (first | ((with_reducible refine gate_dst (N := 6) rfl ?_); refine box_event ?hg (N := 6) ?hd (cs := #[.slice A0 l0.length c0, .int .i64 0, .int .u64 0]) (t := 48) ?hr ?_; (case hd => rfl); (case hg => rfl); (case hr => first | (go_simp; done) | (go_simp; rfl)); intro gb413 hg w5 hbox hb; have HI413 := Aside0.mk ((⟨_, _, hbox, (by rw [hg]; exact (szB HB) : w.heap.size ≤ gb413), HR0.out⟩ : IsS48 w w5 gb413 l0 0 0)); replace HB := upB HB hb; clear hb hbox hg) | ((with_reducible refine gate_callee (f := 47) rfl ?_); refine goesA (some 8) Try.func47 #[.pointer (some ⟨gb413, 0, none⟩), .int .i64 8] ?_; (with_reducible refine (Zat.calls gb413 l0 0 0 8 true t415 t416 w _ ?side1 ?side2 A2.out).mono ?_); (case side1 => exact IsS48.at HI413); (case side2 => exact atB HB); rintro e w6 ⟨rfl, hi, hb, hk⟩; refine ⟨_, rfl, ?_⟩; replace HB := Aside0.mk (hb); replace HI413 := Aside0.mk (hi)) | ((with_reducible refine gate_dst (N := 10) rfl ?_); refine Kd.R_lit (Kd.int .i64) _ 3 ?hg (N := 10) ?hd (xs := ([2, 3, 1000, 1001, (-1)] : List Int)) (inner := [.int .i64 2, .int .i64 3, .int .i64 1000, .int .i64 1001, .int .i64 (-1)]) (ok := fun _ => True) (okp := fun _ => True) ?hr ?hp (fun _ hk => hk) trivial (Below.refl _ _) (Nat.le_refl _) (by simp) ?_; (case hd => rfl); (case hg => rfl); (case hr => first | (go_simp; done) | (go_simp; rfl)); (case hp => exact repsI _); intro v418 w7 ho8 hb hg_ hnew_; clear hg_ hnew_; (first | rw [← Ny417.out] at ho8 | (simp only [Int.reduceToNat] at ho8; rw [← Ny417.out] at ho8)); have HO419 := lowR ho8 HB; replace HI413 := IsS48.up HI413 hb; replace HB := upB HB hb; clear hb ho8; obtain ⟨Ao9, co9, eo9⟩ := Kd.R_slice HO419.out; subst eo9) | ((with_reducible refine gate_callee (f := 53) rfl ?_); refine goesA (some 11) Try.func53 #[.pointer (some ⟨gb413, 0, none⟩), .slice Ao9 y417.length co9] ?_; (with_reducible refine (Zbi.calls gb413 l0 t415 t416 _ _ y417 t420 t421 t422 w _ ?side1 ?side2 ?side3 ?side4 ?side5 A4.out).mono ?_); (case side1 => exact IsS48.at HI413); (case side2 => exact atB HB); (case side3 => exact atRC HO419); (case side4 => exact (Kd.R_reads' HO419.out).2.1); (case side5 => exact far_slice (IsS48.own_ne HI413.out HO419.out (by decide))); rintro e w10 ⟨rfl, hi, hb, hk⟩; refine ⟨_, rfl, ?_⟩; replace HO419 := IsS48.keepR HI413 HO419 hk; replace HB := Aside0.mk (hb); replace HI413 := Aside0.mk (hi)))
  go_ret
  exact ⟨eqr, atB HB⟩
 ·replace c3 := Bool.eq_false_iff.mpr c3
  subst c3
  replace H := if_ H
  replace H := Option.bind_eq_some_iff.mp H
  obtain ⟨⟨t423, t424, t425⟩, A110, H⟩ := H
  replace H : (some (wrap64 (3 + t423))) = some r := H
  have A11 := Aside0.mk A110
  clear A110
  obtain rfl := Option.some.inj H
  go_enter Try.func27, Try.ntmps27
  go_wp2_with (first | ((with_reducible refine gate_dst (N := 6) rfl ?_); refine box_event ?hg (N := 6) ?hd (cs := #[.slice A0 l0.length c0, .int .i64 0, .int .u64 0]) (t := 48) ?hr ?_; (case hd => rfl); (case hg => rfl); (case hr => first | (go_simp; done) | (go_simp; rfl)); intro gb413 hg w12 hbox hb; have HI413 := Aside0.mk ((⟨_, _, hbox, (by rw [hg]; exact (szB HB) : w.heap.size ≤ gb413), HR0.out⟩ : IsS48 w w12 gb413 l0 0 0)); replace HB := upB HB hb; clear hb hbox hg) | ((with_reducible refine gate_callee (f := 47) rfl ?_); refine goesA (some 8) Try.func47 #[.pointer (some ⟨gb413, 0, none⟩), .int .i64 8] ?_; (with_reducible refine (Zat.calls gb413 l0 0 0 8 false t415 t416 w _ ?side1 ?side2 A2.out).mono ?_); (case side1 => exact IsS48.at HI413); (case side2 => exact atB HB); rintro e w13 ⟨rfl, hi, hb, hk⟩; refine ⟨_, rfl, ?_⟩; replace HB := Aside0.mk (hb); replace HI413 := Aside0.mk (hi)) | ((with_reducible refine gate_callee (f := 42) rfl ?_); refine goesA (some 13) Try.func42 #[.pointer (some ⟨gb413, 0, none⟩), .int .i64 40] ?_; (with_reducible refine (Zac.calls gb413 l0 t415 t416 40 t423 t424 t425 w _ ?side1 ?side2 A11.out).mono ?_); (case side1 => exact IsS48.at HI413); (case side2 => exact atB HB); rintro e w14 ⟨rfl, hi, hb, hk⟩; refine ⟨_, rfl, ?_⟩; replace HB := Aside0.mk (hb); replace HI413 := Aside0.mk (hi)))
  go_ret
  exact ⟨eqr, atB HB⟩
def Zcv.f (a0 : Int) : Option (Bool × Bool) := (Zcc.f a0 3 1000).bind fun t426 => (if t426 = true then (if (Int.tmod a0 4) = 0 then (some (true, true)) else (some (((Int.tmod a0 4) == 3), true))) else (some (false, false)))
theorem Zcv.calls (a0 : Int) (r1 : Bool) (r2 : Bool) (w : World) (h : Zcv.f a0 = some (r1, r2)) :
  Calls Try.prog 28 #[.int .i64 a0] w fun e w' => e = .returned (.tuple #[.bool r1, .bool r2]) ∧ Drawn0 w w' := by
 have H := h
 unfold Zcv.f at H
 clear h
 obtain ⟨t426, A2, H⟩ := bs_ H
 (try dsimp only at H)
 by_cases c3 : t426 = true
 rotate_left
 ·replace c3 := Bool.eq_false_iff.mpr c3
  subst c3
  replace H := if_ H
  simp only [Option.some.injEq, Prod.mk.injEq] at H
  obtain ⟨rfl, rfl⟩ := H
  go_enter Try.func28, Try.ntmps28
  go_wp2_with (first | ((with_reducible refine gate_callee (f := 44) rfl ?_); refine goesA (some 5) Try.func44 #[.int .i64 a0, .int .i64 3, .int .i64 1000] ?_; (with_reducible refine (Zcc.calls a0 3 1000 false _ A2.out).mono ?_); rintro e w' ⟨rfl, ⟨nd, rfl⟩⟩; refine ⟨_, rfl, ?_⟩))
  go_ret2
  exact ⟨by first | rfl | (simp; done) | (simp [*]; done), by repeat (first | exact Drawn0.refl _ | apply Drawn0.step)⟩
 subst c3
 replace H := it_ H
 by_cases c4 : (Int.tmod a0 4) = 0
 rotate_left
 ·rw [if_neg c4] at H
  have c4b0 : ((Int.tmod a0 4) == 0) = false := beq_eq_false_iff_ne.mpr c4
  have c4b1 : ((Int.tmod a0 4) != 0) = true := bne_iff_ne.mpr c4
  simp only [Option.some.injEq, Prod.mk.injEq] at H
  obtain ⟨rfl, rfl⟩ := H
  go_enter Try.func28, Try.ntmps28
  go_wp2_with (first | ((with_reducible refine gate_callee (f := 44) rfl ?_); refine goesA (some 5) Try.func44 #[.int .i64 a0, .int .i64 3, .int .i64 1000] ?_; (with_reducible refine (Zcc.calls a0 3 1000 true _ A2.out).mono ?_); rintro e w' ⟨rfl, ⟨nd, rfl⟩⟩; refine ⟨_, rfl, ?_⟩))
  go_ret2
  exact ⟨by first | rfl | (simp; done) | (simp [*]; done), by repeat (first | exact Drawn0.refl _ | apply Drawn0.step)⟩
 rw [if_pos c4] at H
 have c4b0 : ((Int.tmod a0 4) == 0) = true := beq_iff_eq.mpr c4
 have c4b1 : ((Int.tmod a0 4) != 0) = false := bne_eq_false_iff_eq.mpr c4
 clear c4
 simp only [Option.some.injEq, Prod.mk.injEq] at H
 obtain ⟨rfl, rfl⟩ := H
 go_enter Try.func28, Try.ntmps28
 go_wp2_with (first | ((with_reducible refine gate_callee (f := 44) rfl ?_); refine goesA (some 5) Try.func44 #[.int .i64 a0, .int .i64 3, .int .i64 1000] ?_; (with_reducible refine (Zcc.calls a0 3 1000 true _ A2.out).mono ?_); rintro e w' ⟨rfl, ⟨nd, rfl⟩⟩; refine ⟨_, rfl, ?_⟩))
 go_ret2
 exact ⟨by first | rfl | (simp; done) | (simp [*]; done), by repeat (first | exact Drawn0.refl _ | apply Drawn0.step)⟩
def placesFrom (n : Int) : Nat → List Int → List Int
 | _, [] => []
 | i, x :: l => if x = n then (i : Int) :: placesFrom n (i + 1) l else placesFrom n (i + 1) l
def placesOf (l : List Int) (n : Int) : List Int := placesFrom n 0 l
def atOf (l : List Int) (k : Nat) : List Int := if k = 0 then [] else placesOf l k
def pairsOk (l : List Int) : Bool := (List.range 21).all fun k => (atOf l k).length == 0 || (atOf l k).length == 2
theorem placesFrom_snoc (n x : Int) : ∀ (l : List Int) (i : Nat), placesFrom n i (l ++ [x]) = placesFrom n i l ++ (if x = n then [((i + l.length : Nat) : Int)] else [])
 | [], i => by simp [placesFrom]
 | y :: l, i => by
  have ih := placesFrom_snoc n x l (i + 1)
  by_cases h : y = n <;> simp [placesFrom, h, ih] <;> (split <;> simp <;> omega)
theorem placesFrom_len (n : Int) : ∀ (l : List Int) (i : Nat), (placesFrom n i l).length ≤ l.length
 | [], i => by simp [placesFrom]
 | y :: l, i => by
  have ih := placesFrom_len n l (i + 1)
  unfold placesFrom
  split
  ·simp; omega
  ·simp; omega
theorem atOf_len (l : List Int) (k : Nat) : (atOf l k).length ≤ l.length := by
 unfold atOf
 split
 ·simp
 ·exact placesFrom_len _ _ _
theorem take_snoc (l : List Int) (k : Nat) (h : k < l.length) : l.take (k + 1) = l.take k ++ [rd l k] := by
 rw [rd_nat l k h, List.take_succ_eq_append_getElem h]
theorem atOf_step (l : List Int) (k n : Nat) (h : k < l.length) (hn : rd l k = n) (j : Nat) : atOf (l.take (k + 1)) j = if j = n ∧ 0 < n then atOf (l.take k) j ++ [(k : Int)] else atOf (l.take k) j := by
 rw [take_snoc l k h, hn]
 unfold atOf placesOf
 by_cases h0 : j = 0
 ·subst h0
  rw [if_pos rfl, if_pos rfl, if_neg (by omega)]
 rw [if_neg h0, if_neg h0, placesFrom_snoc]
 by_cases hj : j = n
 ·subst hj
  rw [if_pos rfl, if_pos ⟨rfl, by omega⟩]
  simp [List.length_take]
  omega
 ·rw [if_neg (by omega), if_neg (by omega)]
  simp
def arr21 (V : Nat → Value) : Array Value := ((List.range 21).map V).toArray
def updV {α : Type} (V : Nat → α) (n : Nat) (v : α) : Nat → α := fun k => if k = n then v else V k
theorem arr21_get (V : Nat → Value) (k : Nat) (h : k < 21) : (arr21 V)[k]? = some (V k) := by
 simp [arr21, h]
theorem arr21_size (V : Nat → Value) : (arr21 V).size = 21 := by simp [arr21]
theorem arr21_set (V : Nat → Value) (n : Nat) (v : Value) : (arr21 V).setIfInBounds n v = arr21 (updV V n v) := by
 apply Array.ext_getElem?
 intro i
 rw [Array.getElem?_setIfInBounds]
 by_cases h : n = i
 rotate_left
 ·rw [if_neg h]
  by_cases hi : i < 21
  ·rw [arr21_get _ _ hi, arr21_get _ _ hi]
   simp [updV, Ne.symm h]
  ·simp [arr21, hi]
 subst h
 by_cases hn : n < 21
 ·rw [if_pos rfl, if_pos (by rw [arr21_size]; exact hn), arr21_get _ _ hn]
  simp [updV]
 ·rw [if_pos rfl, if_neg (by rw [arr21_size]; exact hn)]
  simp [hn, arr21]
theorem results_cell_tmp {P : Program} {fn : Func} {p q : Tmp} {ty : TypeId} (h : fn.results = #[.cell p ty, .tmp q]) (tmps : Array Value) (w : World) (g : Nat) (v : Value)
  (hp : tmps.getD p undef = .pointer (some ⟨g, 0, none⟩)) (hl : (loadVar ty ⟨g, 0, none⟩).run P w = .ok v w) :
  (results fn tmps).run P w = .ok (.tuple #[v, tmps.getD q undef]) w := by
 have hp' : tmps[p]?.getD undef = .pointer (some ⟨g, 0, none⟩) := by simpa using hp
 simp [results, h, hp', asAddr, hl, Sem.run_bind]
structure AtOk (B : Nat) (w : World) (g : Nat) (V : Nat → Value) (L : Nat → List Int) : Prop where
 blk : w.heap[g]? = some (.cells (arr21 V) 56 (0, 0))
 own : ∀ k, k < 21 → Kd.R (Kd.int .i64) 3 w B (fun _ => True) (V k) (L k)
 apart : ∀ j k, j < 21 → k < 21 → j ≠ k → ∀ b, (V j).ownBlock = some b → (V k).ownBlock ≠ some b
theorem AtOk.congr {B : Nat} {w : World} {g : Nat} {V : Nat → Value} {L L' : Nat → List Int} (h : AtOk B w g V L) (e : ∀ k, k < 21 → L k = L' k) : AtOk B w g V L' :=
 ⟨h.blk, fun k hk => e k hk ▸ h.own k hk, h.apart⟩
theorem AtOk.ne {B : Nat} {w : World} {g : Nat} {V : Nat → Value} {L : Nat → List Int} (h : AtOk B w g V L) (k : Nat) (hk : k < 21) : some g ≠ (V k).ownBlock := Kd.R_ne (h.own k hk) h.blk (by decide)
theorem AtOk.put {B : Nat} {w w1 : World} {g : Nat} {V : Nat → Value} {L : Nat → List Int} (h : AtOk B w g V L) (n : Nat) (hn : n < 21) {v1 : Value} {l1 : List Int} (hg : w.grownBy w1 (V n).ownBlock)
  (hat : v1.ownBlock = (V n).ownBlock ∨ ∃ b, v1.ownBlock = some b ∧ w.heap.size ≤ b) (ho : Kd.R (Kd.int .i64) 3 w1 B (fun _ => True) v1 l1) :
  AtOk B (w1.setCell ⟨g, n, none⟩ v1) g (updV V n v1) (updV L n l1) := by
 have hb1 := blk_grown h.blk hg (h.ne n hn)
 have hty : ∀ q, q ∈ 3 :: (Kd.int .i64).E → q ≠ 56 := by
  intro q hq
  simp [Kd.int, Kd.scalar] at hq
  omega
 refine ⟨?_, fun k hk => ?_, fun j k hj hk hjk b hb => ?_⟩
 ·rw [← arr21_set]
  exact blk_set hb1 n v1
 ·unfold updV
  by_cases e : k = n
  ·rw [if_pos e, if_pos e]
   exact Kd.R_set ho hb1 hty n v1
  ·rw [if_neg e, if_neg e]
   have hk1 : Kd.R (Kd.int .i64) 3 w1 B (fun _ => True) (V k) (L k) :=
    Kd.R_grown2 (h.own k hk) rfl hg (fun b hb e2 => h.apart n k hn hk (Ne.symm e) b hb e2.symm)
   exact Kd.R_set hk1 hb1 hty n v1
 ·unfold updV at hb ⊢
  by_cases e1 : j = n
  ·rw [if_pos e1] at hb
   rw [if_neg (fun e2 => hjk (e1.trans e2.symm))]
   intro hb2
   rcases hat with hat | ⟨b', hb', hle⟩
   ·rw [hat] at hb
    exact h.apart n k hn hk (fun e2 => hjk (e1.trans e2)) b hb hb2
   ·rw [hb'] at hb
    have := Kd.R_lt (h.own k hk) b hb2
    have : b' = b := Option.some.inj hb
    omega
  rw [if_neg e1] at hb
  by_cases e2 : k = n
  rotate_left
  ·rw [if_neg e2]
   exact h.apart j k hj hk hjk b hb
  rw [if_pos e2]
  intro hb2
  rcases hat with hat | ⟨b', hb', hle⟩
  ·rw [hat] at hb2
   exact h.apart j n hj hn e1 b hb hb2
  ·rw [hb'] at hb2
   have := Kd.R_lt (h.own j hj) b hb
   have : b' = b := Option.some.inj hb2
   omega
theorem AtOk.setRow {B : Nat} {w : World} {g g2 : Nat} {V : Nat → Value} {L : Nat → List Int} (h : AtOk B w g V L) {cs : Array Value} (hg : w.heap[g2]? = some (.cells cs 56 (0, 0))) (cs' : Array Value) :
  ∀ k, k < 21 → Kd.R (Kd.int .i64) 3 (w.setRow g2 cs') B (fun _ => True) (V k) (L k) := by
 intro k hk
 have hty : ∀ q, q ∈ 3 :: (Kd.int .i64).E → q ≠ 56 := by
  intro q hq
  simp [Kd.int, Kd.scalar] at hq
  omega
 exact Kd.R_mono (Kd.R_step (Kd.R_types (h.own k hk) hg hty) (fun b hb _ => setRow_other w g2 b cs' hb.2)) (fun _ hb => hb.1)
theorem run_index_arr21 (w : World) (V : Nat → Value) (j : Nat) (hj : j < 21) (hV : (V j).oneCell' = true) : (Instr.index 56 (.agg (arr21 V)) (.int .i64 (j : Int))).run Try.prog w = .ok (V j) w := by
 have hu := Try.underlying56
 have he := Try.underlying24
 have hs : (Try.prog.info? 24).map (·.size) = some 1 := by kernel_rfl
 obtain ⟨i0, hi, hs1⟩ := Option.map_eq_some_iff.1 hs
 have hg := arr21_get V j hj
 have h1 : (0 : Int) ≤ (j : Int) ∧ (j : Int) < ((21 : Nat) : Int) := by omega
 have hk : (0 ≤ (j : Int) ∧ (j : Int) < ((21 : Nat) : Int)) := by omega
 unfold Instr.index
 simp only [asIntOf, Sem.run_bind, Sem.run_pure, Result.andThen_ok, run_underlying hu, if_pos hk, sizeOf, typeInfo, hi, hs1, part, isAgg, run_underlying he]
 simp [hg, hi, hs1]
theorem own_oneCell {w : World} {B e : Nat} {v : Value} {l : List Int} (h : Kd.R (Kd.int .i64) e w B (fun _ => True) v l) : v.oneCell' = true := by
 obtain ⟨A, c, rfl⟩ := Kd.R_slice h
 rfl
theorem Zdd.calls (A0 : Option Addr) (c0 : Nat) (l0 : List Int) (w : World) (hr0 : Kd.C (Kd.int .i64) w A0 l0.length l0) (hl : l0.length ≤ 40) (hm : ∀ x ∈ l0, 0 ≤ x ∧ x ≤ 20) :
  Calls Try.prog 56 #[.slice A0 l0.length c0] w fun e w' => ∃ V : Nat → Value, e = .returned (.tuple #[.agg (arr21 V), .bool (pairsOk l0)]) ∧ (∀ k, k < 21 → Kd.R (Kd.int .i64) 3 w' w.heap.size (fun _ => True) (V k) (atOf l0 k)) ∧ Below w.heap.size w w' := by
 have HR0 := Aside0.mk hr0
 have HM := Aside0.mk hm
 have HL := Aside0.mk hl
 clear hr0 hm
 go_enter Try.func56, Try.ntmps56
 go_wp2_with fail
 go_loopw [11] (fun i wr => ∃ (k : Nat) (V : Nat → Value), k ≤ l0.length ∧ i = .int .i64 k ∧ Aside0 (AtOk w.heap.size wr (w.heap.size + 1) V (atOf (l0.take k))) ∧ Aside0 (Below w.heap.size w wr) ∧ Aside0 (wr.heap[w.heap.size]? = some (.cells (arr21 (fun _ => .slice none 0 0)) 56 (0, 0)))) (fun i _ => l0.length - (intOf i).toNat)
 case atStart =>
  refine ⟨0, fun _ => .slice none 0 0, Nat.zero_le _, rfl, ⟨⟨?_, ?_, ?_⟩⟩, ⟨?_⟩, ⟨?_⟩⟩
  ·exact heap_alloc2_new w _ _
  ·intro k hk
   have : atOf (l0.take 0) k = [] := by simp [atOf, placesOf, placesFrom]
   rw [this]
   exact Kd.R_nil _ _ _ _ _
  ·intro j k _ _ _ b hb
   simp [Value.ownBlock] at hb
  ·exact below_alloc (below_alloc (Below.refl _ _) _) _
  ·exact heap_alloc2_old w _ _
 case round =>
  obtain ⟨k, V, hk, rfl, HA, HB, HG⟩ := hrel
  by_cases hlt : k < l0.length
  ·obtain ⟨ad, e, hx⟩ := Kd.at_int HR0.out (k : Int) (by omega) (by omega)
   cases e
   replace hx := (HB.out.cell (World.block_lt_of_cell? w _ hx)).trans hx
   obtain ⟨n, hn, hn20⟩ : ∃ n : Nat, rd l0 k = (n : Int) ∧ n ≤ 20 := by
    have h := HM.out (rd l0 k) (by rw [rd_nat l0 k hlt]; exact List.getElem_mem hlt)
    exact ⟨(rd l0 k).toNat, by omega, by omega⟩
   rw [hn, Int.toNat_natCast] at hx
   have HN := Aside0.mk hn
   have HS := Aside0.mk (atOf_step l0 k n hlt hn)
   clear hn
   have hc := blk_cell HA.out.blk n
   rw [arr21_get V n (by omega)] at hc
   have hf := blk_frozen HA.out.blk n
   have HO := Aside0.mk (HA.out.own n (by omega))
   have HNE := Aside0.mk (HA.out.ne n (by omega))
   have LM := Aside0.mk (show ((atOf (l0.take k) n).length + 1) * 8 ≤ 140737488355328 from by have h1 := atOf_len (l0.take k) n; have h2 := HL.out; have h3 := List.length_take_le k l0; omega)
   have HS0 := Aside0.mk (show w.heap.size ≤ wr.heap.size from HB.out.size)
   by_cases hpos : 0 < n
   rotate_left
   ·have h0 : n = 0 := by omega
    go_wp2_with fail
    go_roundw
    case rel =>
     refine ⟨k + 1, V, by omega, by go_num, ⟨HA.out.congr (fun j _ => ?_)⟩, ⟨HB.out⟩, ⟨HG.out⟩⟩
     rw [HS.out j, if_neg (fun h => hpos h.2)]
    case measure => simp [intOf]; omega
   go_wp2_with (first | ((with_reducible refine gate_builtin (b := .append) (xs := #[.tmp 21, .tmp 23]) rfl ?_); at_builtin; refine Kd.R_append (Kd.int .i64) (w0 := w) w.heap.size rfl (.tmp 21) (.tmp 23) 24 3 (.int .i64 0) 8 rfl Try.underlying24 info3 rfl (by decide) (by omega) (V n) (atOf (l0.take k) n) (k : Int) [.int .i64 (k : Int)] (fun _ => True) (fun _ => False) rfl rfl rfl (fun _ hk => hk.elim) (fun _ _ => trivial) HO.out HB.out HS0.out LM.out ?_; intro v1 w1 ho hb hg hat; obtain ⟨A1, c1, hv⟩ := Kd.R_slice ho; rw [List.length_append, List.length_singleton] at hv; subst hv; have HP := Aside0.mk (HA.out.put n (by omega) hg hat ho); have hb1 := blk_grown HA.out.blk hg HNE.out; have hc1 := blk_cell hb1 n; have hf1 := blk_frozen hb1 n; rw [arr21_get V n (by omega)] at hc1; have HG1 := Aside0.mk (blk_grown HG.out hg (Kd.R_ne HO.out HG.out (by decide))); have HB1 := Aside0.mk hb; clear hb1 ho hb hg hat hc hf))
   go_roundw
   case rel =>
    refine ⟨k + 1, _, by omega, by go_num, ⟨HP.out.congr (fun j _ => ?_)⟩, ⟨?_⟩, ⟨?_⟩⟩
    ·rw [HS.out j]
     unfold updV
     by_cases e : j = n
     ·subst e
      rw [if_pos rfl, if_pos ⟨rfl, hpos⟩]
     ·rw [if_neg e, if_neg (fun h => e h.1)]
    ·exact below_set HB1.out (Nat.le_succ _)
    ·exact blk_far HG1.out (by simp) _
   case measure => simp [intOf]; omega
  ·have hkl : k = l0.length := by omega
   have HKL := Aside0.mk hkl
   clear hkl
   have HA2 := Aside0.mk (HA.out.congr (L' := atOf l0) (fun j _ => by rw [HKL.out, List.take_length]))
   clear HA HKL
   have hu := Try.underlying56
   have hsz : (Try.prog.info? 56).map (·.size) = some (arr21 V).size := by rw [arr21_size]; kernel_rfl
   go_wp2_with (first | ((with_reducible refine gate_dst (N := 27) rfl ?_); refine wpList_load_row rfl 56 (.tmp 4) rfl (w.heap.size + 1) rfl 56 (arr21 V) (0, 0) _ HA2.out.blk hu rfl hsz ?_))
   have hold : (arr21 (fun _ => .slice none 0 0)).size = (arr21 V).size := by rw [arr21_size, arr21_size]
   have HALL := Aside0.mk (show (arr21 V).all (·.oneCell') = true from by
    rw [Array.all_eq_true_iff_forall_mem]
    intro x hx
    simp only [arr21, List.mem_toArray, List.mem_map, List.mem_range] at hx
    obtain ⟨q, hq, rfl⟩ := hx
    exact own_oneCell (HA2.out.own q hq))
   have HV := Aside0.mk (show ∀ j : Nat, j < 21 → ∃ A c, ∀ W : World, (Instr.index 56 (.agg (arr21 V)) (.int .i64 (j : Int))).run Try.prog W = .ok (.slice A (atOf l0 j).length c) W from fun j hj => by
    obtain ⟨A, c, e⟩ := Kd.R_slice (HA2.out.own j hj)
    exact ⟨A, c, fun W => by rw [run_index_arr21 W V j hj (own_oneCell (HA2.out.own j hj)), e]⟩)
   go_loop [28] (fun i => ∃ j : Nat, j ≤ 21 ∧ i = .int .i64 j ∧ Aside0 (∀ q, q < j → ((atOf l0 q).length == 0 || (atOf l0 q).length == 2) = true)) (fun i => 21 - (intOf i).toNat)
   case atStart => exact ⟨0, by omega, rfl, ⟨fun q hq => by omega⟩⟩
   case round =>
    obtain ⟨j, hj, rfl, HQ⟩ := hrel
    by_cases hlt : j < 21
    rotate_left
    ·have HYES := Aside0.mk (show pairsOk l0 = true from by
      unfold pairsOk
      rw [List.all_eq_true]
      intro q hq
      exact HQ.out q (by have := List.mem_range.1 hq; omega))
     go_wp2_with (first | ((with_reducible refine gate_dst (N := 41) rfl ?_); refine wpList_load_row rfl 56 (.tmp 4) rfl (w.heap.size + 1) rfl 56 (arr21 V) (0, 0) _ HA2.out.blk hu rfl hsz ?_) | ((with_reducible refine gate_store (t := 56) (p := 2) rfl ?_); refine wpList_store_row rfl 56 (.tmp 2) (.tmp 41) rfl w.heap.size (arr21 V) rfl rfl 56 (arr21 (fun _ => .slice none 0 0)) HG.out hsz hold HALL.out ?_))
     have hres := run_loadVar_row (P := Try.prog) (wr.setRow w.heap.size (arr21 V)) w.heap.size 56 56 (arr21 V) (0, 0) _ (setRow_heap _ _ _ _ _ _ HG.out) hu rfl hsz
     refine bodyPost_ret (v := .tuple #[.agg (arr21 V), .bool true]) (results_cell_tmp Try.results56 _ _ w.heap.size _ rfl hres) rfl ⟨V, by rw [HYES.out], ?_, ?_⟩
     ·exact AtOk.setRow HA2.out HG.out _
     ·exact below_setRow HB.out (Nat.le_refl _) _
    obtain ⟨A, c, hix⟩ := HV.out j hlt
    by_cases h0 : (atOf l0 j).length = 0
    ·have b0 : (((atOf l0 j).length : Int) != 0) = false := by rw [h0]; rfl
     have b0' : (((atOf l0 j).length : Int) == 0) = true := by rw [h0]; rfl
     have H0 := Aside0.mk h0
     clear h0
     go_wp2_with fail
     go_round
     case rel => exact ⟨j + 1, by omega, by go_num, ⟨fun q hq => by
      by_cases e : q = j
      ·subst e; rw [H0.out]; rfl
      ·exact HQ.out q (by omega)⟩⟩
     case measure => simp [intOf]; omega
    by_cases h2 : (atOf l0 j).length = 2
    rotate_left
    ·have b0 : (((atOf l0 j).length : Int) != 0) = true := by rw [bne_iff_ne]; omega
     have b2 : (((atOf l0 j).length : Int) != 2) = true := by rw [bne_iff_ne]; omega
     have HNO := Aside0.mk (show pairsOk l0 = false from by
      unfold pairsOk
      rw [List.all_eq_false]
      exact ⟨j, List.mem_range.2 hlt, by simp [h0, h2]⟩)
     clear h0 h2
     go_wp2_with (first | ((with_reducible refine gate_dst (N := 39) rfl ?_); refine wpList_load_row rfl 56 (.tmp 4) rfl (w.heap.size + 1) rfl 56 (arr21 V) (0, 0) _ HA2.out.blk hu rfl hsz ?_) | ((with_reducible refine gate_store (t := 56) (p := 2) rfl ?_); refine wpList_store_row rfl 56 (.tmp 2) (.tmp 39) rfl w.heap.size (arr21 V) rfl rfl 56 (arr21 (fun _ => .slice none 0 0)) HG.out hsz hold HALL.out ?_))
     have hres := run_loadVar_row (P := Try.prog) (wr.setRow w.heap.size (arr21 V)) w.heap.size 56 56 (arr21 V) (0, 0) _ (setRow_heap _ _ _ _ _ _ HG.out) hu rfl hsz
     refine bodyPost_ret (v := .tuple #[.agg (arr21 V), .bool false]) (results_cell_tmp Try.results56 _ _ w.heap.size _ rfl hres) rfl ⟨V, by rw [HNO.out], ?_, ?_⟩
     ·exact AtOk.setRow HA2.out HG.out _
     ·exact below_setRow HB.out (Nat.le_refl _) _
    have b0 : (((atOf l0 j).length : Int) != 0) = true := by rw [h2]; rfl
    have b2 : (((atOf l0 j).length : Int) != 2) = false := by rw [h2]; rfl
    have H2 := Aside0.mk h2
    clear h2
    go_wp2_with fail
    go_round
    case rel => exact ⟨j + 1, by omega, by go_num, ⟨fun q hq => by
     by_cases e : q = j
     ·subst e; rw [H2.out]; rfl
     ·exact HQ.out q (by omega)⟩⟩
    case measure => simp [intOf]; omega
def Zbf.l0 : Nat → List Int → List Int → Int → Int → Option (Bool)
 | 0, _, _, _, _ => none
 | k + 1, x0, x5, x6, x7 => if x7 < x6 then (if 0 ≤ x7 then (if x7 < (x5.length : Int) then (if (rd x5 x7) < 0 then (some false) else (if (rd x5 x7) > 20 then (some false) else (Zbf.l0 k x0 x5 x6 (wrap64 (x7 + 1))))) else (none)) else (none)) else (some (decide ((x0.length : Int) ≤ 40)))
def Zbf.f (k : Nat) (l0 : List Int) : Option (Bool) := Zbf.l0 k l0 l0 (l0.length : Int) 0
theorem Zbf.mono_l : ∀ k, (∀ y0 y1 y2 y3, LeO (Zbf.l0 k y0 y1 y2 y3) (Zbf.l0 (k + 1) y0 y1 y2 y3))
 | 0 => fun _ _ _ _ r h => by simp [Zbf.l0] at h
 | k + 1 => by
  have ih0 := Zbf.mono_l k
  ·intro y0 y1 y2 y3
   unfold Zbf.l0
   repeat' (first | (with_reducible first | exact ih0 _ _ _ _ | exact LeO.refl _ | exact LeO.none _ | refine LeO.ite ?_ ?_ | refine LeO.bind ?_ (fun _ => ?_)) | exact ih0 _ _ _ _ | exact LeO.none _ | refine LeO.ite ?_ ?_ | refine LeO.bind ?_ (fun _ => ?_))
theorem Zbf.mono : ∀ a0 k, LeO (Zbf.f k a0) (Zbf.f (k + 1) a0) := by
 intro a0 k
 have ih0 := Zbf.mono_l k
 unfold Zbf.f
 repeat' (first | (with_reducible first | exact ih0 _ _ _ _ | exact LeO.refl _ | exact LeO.none _ | refine LeO.ite ?_ ?_ | refine LeO.bind ?_ (fun _ => ?_)) | exact ih0 _ _ _ _ | exact LeO.none _ | refine LeO.ite ?_ ?_ | refine LeO.bind ?_ (fun _ => ?_))
theorem Zbf.calls (k : Nat) (A0 : Option Addr) (c0 : Nat) (l0 : List Int) (r : Bool) (w : World) (hr0 : Kd.C (Kd.int .i64) w A0 l0.length l0) (hc0 : l0.length ≤ c0) (h : Zbf.f k l0 = some r) :
  Calls Try.prog 88 #[.slice A0 l0.length c0] w fun e w' => e = .returned (.bool r) ∧ Drawn0 w w' := by
 have HR0 := Aside0.mk hr0
 have HC0 := Aside0.mk hc0
 clear hr0 hc0
 have H := h
 unfold Zbf.f at H
 clear h
 have H' := Aside0.mk H
 clear H
 go_enter Try.func88, Try.ntmps88
 go_wp2
 go_loopg [7] k (fun kq v7 w' => ∃ (x7_1 : Int), v7 = .int .i64 x7_1 ∧ Aside0 (Zbf.l0 kq l0 l0 (l0.length : Int) x7_1 = some r) ∧ Aside0 (kq ≤ k) ∧ Drawn0 w w')
 case atStart => exact ⟨(0), eqd, H', ⟨Nat.le_refl _⟩, by repeat (first | exact Drawn0.refl _ | apply Drawn0.step)⟩
 case round =>
  clear H'
  obtain ⟨x7_1, rfl, HA, HK1, ⟨m1, rfl⟩⟩ := hrel
  cases gk with
  | zero => exact absurd HA.out (by simp [Zbf.l0])
  | succ k1 =>
   have H := HA.out
   clear HA
   simp only [Zbf.l0] at H
   by_cases c2 : x7_1 < (l0.length : Int)
   rotate_left
   ·rw [if_neg c2] at H
    have c2b0 := decide_eq_false c2
    clear c2
    obtain rfl := Option.some.inj H
    go_wp2
    go_ret
    exact ⟨by first | rfl | (simp; done) | (simp [*]; done), by repeat (first | exact Drawn0.refl _ | apply Drawn0.step)⟩
   rw [if_pos c2] at H
   have c2b0 := decide_eq_true c2
   clear c2
   obtain ⟨c3b0, H⟩ := in_ H
   obtain ⟨c4b0, H⟩ := in_ H
   by_cases c5 : (rd l0 x7_1) < 0
   ·rw [if_pos c5] at H
    have c5b0 := decide_eq_true c5
    clear c5
    obtain rfl := Option.some.inj H
    have p574 : 0 ≤ (x7_1 : Int) := ofd
    have q574 : x7_1 < (l0.length : Int) := ofd
    obtain ⟨ad574, e574, hx574_0⟩ := Kd.at_int HR0.out x7_1 p574 q574
    cases e574
    replace p574 := eq_true p574
    replace q574 := eq_true q574
    go_wp2
    go_ret
    exact ⟨by first | rfl | (simp; done) | (simp [*]; done), by repeat (first | exact Drawn0.refl _ | apply Drawn0.step)⟩
   ·rw [if_neg c5] at H
    have c5b0 := decide_eq_false c5
    clear c5
    by_cases c6 : (rd l0 x7_1) > 20
    ·rw [if_pos c6] at H
     have c6b0 := decide_eq_true c6
     clear c6
     obtain rfl := Option.some.inj H
     have p574 : 0 ≤ (x7_1 : Int) := ofd
     have q574 : x7_1 < (l0.length : Int) := ofd
     obtain ⟨ad574, e574, hx574_0⟩ := Kd.at_int HR0.out x7_1 p574 q574
     cases e574
     replace p574 := eq_true p574
     replace q574 := eq_true q574
     go_wp2
     go_ret
     exact ⟨by first | rfl | (simp; done) | (simp [*]; done), by repeat (first | exact Drawn0.refl _ | apply Drawn0.step)⟩
    ·rw [if_neg c6] at H
     have c6b0 := decide_eq_false c6
     clear c6
     have H' := Aside0.mk H
     clear H
     have p574 : 0 ≤ (x7_1 : Int) := ofd
     have q574 : x7_1 < (l0.length : Int) := ofd
     obtain ⟨ad574, e574, hx574_0⟩ := Kd.at_int HR0.out x7_1 p574 q574
     cases e574
     replace p574 := eq_true p574
     replace q574 := eq_true q574
     go_wp2
     go_roundg k1
     case measure => have := HK1.out; omega
     case rel => exact ⟨(wrap64 (x7_1 + 1)), eqd, H', ⟨by have := HK1.out; omega⟩, by repeat (first | exact Drawn0.refl _ | apply Drawn0.step)⟩
noncomputable def Zbf.L0 (x0 : List Int) (x5 : List Int) (x6 : Int) (x7 : Int) : Option (Bool) := lim fun k => Zbf.l0 k x0 x5 x6 x7
theorem Zbf.L0_lim (x0 : List Int) (x5 : List Int) (x6 : Int) (x7 : Int) : Lim (fun k => Zbf.l0 k x0 x5 x6 x7) (Zbf.L0 x0 x5 x6 x7) := Lim.of fun k => (Zbf.mono_l k) x0 x5 x6 x7
noncomputable def Zbf.F (l0 : List Int) : Option (Bool) := lim fun k => Zbf.f k l0
theorem Zbf.F_lim (l0 : List Int) : Lim (fun k => Zbf.f k l0) (Zbf.F l0) := Lim.of fun k => Zbf.mono l0 k
theorem Zbf.L0_eq (x0 : List Int) (x5 : List Int) (x6 : Int) (x7 : Int) : Zbf.L0 x0 x5 x6 x7 = (if x7 < x6 then (if 0 ≤ x7 then (if x7 < (x5.length : Int) then (if (rd x5 x7) < 0 then (some false) else (if (rd x5 x7) > 20 then (some false) else (Zbf.L0 x0 x5 x6 (wrap64 (x7 + 1))))) else (none)) else (none)) else (some (decide ((x0.length : Int) ≤ 40)))) :=
 Lim.step (f := fun k => Zbf.l0 (k + 1) x0 x5 x6 x7) (Zbf.L0_lim x0 x5 x6 x7) (fun _ => rfl) (by
  simp only [Zbf.l0]
  repeat' (first | (with_reducible first | exact Lim.const _ | exact Zbf.L0_lim _ _ _ _ | refine Lim.ite ?_ ?_ | refine Lim.bind ?_ (fun _ => ?_))))
theorem Zbf.F_eq (l0 : List Int) : Zbf.F l0 = (Zbf.L0 l0 l0 (l0.length : Int) 0) :=
 Lim.unique (Zbf.F_lim l0) (by
  unfold Zbf.f
  repeat' (first | (with_reducible first | exact Lim.const _ | exact Zbf.L0_lim _ _ _ _ | refine Lim.ite ?_ ?_ | refine Lim.bind ?_ (fun _ => ?_))))
end Go.Proofs.Ytapffhnkfgkboaa.Fn
