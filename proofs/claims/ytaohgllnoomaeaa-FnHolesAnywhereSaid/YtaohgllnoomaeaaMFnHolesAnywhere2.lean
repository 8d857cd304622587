/- The machine's side and plain lemmas for FnHolesAnywhere: texts of this session, merged by its program (part 2). -/
import Derived.Laws.Rows
import Derived.Test.YtaohgllnoomaeaaMFnHolesAnywhere0
import Derived.Test.YtaohgllnoomaeaaMFnHolesAnywhere1
namespace Go.Proofs.Ytaohgllnoomaeaa.Fn
open Go.RowKit Go.Proofs.YtaohgllnoomaeaaW.PrintWords Go.Proofs.YtaohgllnoomaeaaW.PrintLast Go.Proofs.YtaohgllnoomaeaaW.PrintMore
attribute [local go_sem] max2_int min2_int max_two min_two max_three min_three max_four min_four   -- for this text's walks alone
set_option linter.unusedVariables false
set_option linter.unusedSimpArgs false

/-! ### spec_DrawCountExtended: function 218 -/
def spec_DrawCountExtended.f (l0 : List Int) : Option (Int × Int) := (spec_l1Cur_among.f l0 0 0 (([1, 2, 3, 4, 5, 6, 3, 4, 0, 8] : List Int))).bind fun bt1126 => ((spec_l1Cur_pick.f l0 bt1126.2.1 bt1126.2.2 (wrap64 ((wrap64 (2 * bt1126.1)) + 2))).bind fun bt1129 => ((spec_l1Cur_pick.f l0 bt1129.2.1 bt1129.2.2 9).bind fun bt1132 => (some (bt1126.1, wrap64 (bt1129.1 - (wrap64 (Int.tdiv bt1132.1 8)))))))
set_option maxHeartbeats 8000000 in
set_option maxRecDepth 100000 in
theorem spec_DrawCountExtended.calls (A0 : Option Addr) (c0 : Nat) (l0 : List Int) (r1 : Int) (r2 : Int) (w : World) (hr0 : Kd.C (Kd.int .u8) w A0 l0.length l0) (hc0 : l0.length ≤ c0) (h : spec_DrawCountExtended.f l0 = some (r1, r2)) :
  Calls Try.prog 218 #[.slice A0 l0.length c0] w fun e w' => e = .returned (.tuple #[.int .i64 r1, .int .i64 r2]) ∧ Below w.heap.size w w' := by
 have hu108 := Try.underlying108
 have HR0 := Aside0.mk hr0
 have HC0 := Aside0.mk hc0
 clear hr0 hc0
 have HB := Aside0.mk (Below.refl w.heap.size w)
 have H := h
 unfold spec_DrawCountExtended.f at H
 clear h
 obtain ⟨y1123, hy1123⟩ : ∃ y_ : List Int, y_ = (([1, 2, 3, 4, 5, 6, 3, 4, 0, 8] : List Int)) := ⟨_, rfl⟩
 replace H : ((spec_l1Cur_among.f l0 0 0 y1123).bind fun bt1126 => ((spec_l1Cur_pick.f l0 bt1126.2.1 bt1126.2.2 (wrap64 ((wrap64 (2 * bt1126.1)) + 2))).bind fun bt1129 => ((spec_l1Cur_pick.f l0 bt1129.2.1 bt1129.2.2 9).bind fun bt1132 => (some (bt1126.1, wrap64 (bt1129.1 - (wrap64 (Int.tdiv bt1132.1 8)))))))) = some (r1, r2) := by first | (rw [hy1123]; with_reducible exact H) | (have H2_ := (Option.bind_some _ _).symm.trans H; rw [hy1123]; with_reducible exact H2_) | (have H2_ := (Option.bind_some _ _).symm.trans H; with_reducible exact H2_) | with_reducible exact H | (rw [hy1123]; exact H) | exact H
 have Ny1123 := Aside0.mk hy1123
 clear hy1123
 replace H := Option.bind_eq_some_iff.mp H
 obtain ⟨⟨t1126, t1127, t1128⟩, A20, H⟩ := H
 replace H : ((spec_l1Cur_pick.f l0 t1127 t1128 (wrap64 ((wrap64 (2 * t1126)) + 2))).bind fun bt1129 => ((spec_l1Cur_pick.f l0 bt1129.2.1 bt1129.2.2 9).bind fun bt1132 => (some (t1126, wrap64 (bt1129.1 - (wrap64 (Int.tdiv bt1132.1 8))))))) = some (r1, r2) := H
 have A2 := Aside0.mk A20
 clear A20
 replace H := Option.bind_eq_some_iff.mp H
 obtain ⟨⟨t1129, t1130, t1131⟩, A30, H⟩ := H
 replace H : ((spec_l1Cur_pick.f l0 t1130 t1131 9).bind fun bt1132 => (some (t1126, wrap64 (t1129 - (wrap64 (Int.tdiv bt1132.1 8)))))) = some (r1, r2) := H
 have A3 := Aside0.mk A30
 clear A30
 replace H := Option.bind_eq_some_iff.mp H
 obtain ⟨⟨t1132, t1133, t1134⟩, A40, H⟩ := H
 replace H : (some (t1126, wrap64 (t1129 - (wrap64 (Int.tdiv t1132 8))))) = some (r1, r2) := H
 have A4 := Aside0.mk A40
 clear A40
 simp only [Option.some.injEq, Prod.mk.injEq] at H
 obtain ⟨rfl, rfl⟩ := H
 go_enter Try.func218, Try.ntmps218
 go_wp2_with (first | ((with_reducible refine gate_dst (N := 8) rfl ?_); refine box_event ?hg (N := 8) ?hd (cs := #[.slice A0 l0.length c0, .int .i64 0, .int .u64 0]) (t := 108) ?hr ?_; (case hd => rfl); (case hg => rfl); (case hr => first | (go_simp; done) | (go_simp; rfl)); intro gb1122 hg w5 hbox hb; have HI1122 := Aside0.mk ((⟨_, _, hbox, (by rw [hg]; exact (szB HB) : w.heap.size ≤ gb1122), HR0.out⟩ : IsS108 w w5 gb1122 l0 0 0)); replace HB := upB HB hb; clear hb hbox hg) | ((with_reducible refine gate_dst (N := 10) rfl ?_); refine Kd.R_lit (Kd.int .i64) _ 3 ?hg (N := 10) ?hd (xs := ([1, 2, 3, 4, 5, 6, 3, 4, 0, 8] : List Int)) (inner := [.int .i64 1, .int .i64 2, .int .i64 3, .int .i64 4, .int .i64 5, .int .i64 6, .int .i64 3, .int .i64 4, .int .i64 0, .int .i64 8]) (ok := fun _ => True) (okp := fun _ => True) ?hr ?hp (fun _ hk => hk) trivial (Below.refl _ _) (Nat.le_refl _) (by simp) ?_; (case hd => rfl); (case hg => rfl); (case hr => first | (go_simp; done) | (go_simp; rfl)); (case hp => exact repsI _); intro v1124 w6 ho7 hb hg_ hnew_; clear hg_ hnew_; (first | rw [← Ny1123.out] at ho7 | (simp only [Int.reduceToNat] at ho7; rw [← Ny1123.out] at ho7)); have HO1125 := lowR ho7 HB; replace HI1122 := IsS108.up HI1122 hb; replace HB := upB HB hb; clear hb ho7; obtain ⟨Ao8, co8, eo8⟩ := Kd.R_slice HO1125.out; subst eo8) | ((with_reducible refine gate_callee (f := 191) rfl ?_); refine goesA (some 11) Try.func191 #[.pointer (some ⟨gb1122, 0, none⟩), .slice Ao8 y1123.length co8] ?_; (with_reducible refine (spec_l1Cur_among.calls gb1122 l0 0 0 _ _ y1123 t1126 t1127 t1128 w _ ?side1 ?side2 ?side3 ?side4 ?side5 A2.out).mono ?_); (case side1 => exact IsS108.at HI1122); (case side2 => exact atB HB); (case side3 => exact atRC HO1125); (case side4 => exact (Kd.R_reads' HO1125.out).2.1); (case side5 => exact far_slice (IsS108.own_ne HI1122.out HO1125.out (by decide))); rintro e w9 ⟨rfl, hi, hb, hk⟩; refine ⟨_, rfl, ?_⟩; replace HO1125 := IsS108.keepR HI1122 HO1125 hk; replace HB := Aside0.mk (hb); replace HI1122 := Aside0.mk (hi); (try clear hb); (try clear hb2); (try clear hk); (try clear hi)) | ((with_reducible refine gate_callee (f := 171) rfl ?_); refine goesA (some 17) Try.func171 #[.pointer (some ⟨gb1122, 0, none⟩), .int .i64 (wrap64 ((wrap64 (2 * t1126)) + 2))] ?_; (with_reducible refine (spec_l1Cur_pick.calls gb1122 l0 t1127 t1128 (wrap64 ((wrap64 (2 * t1126)) + 2)) t1129 t1130 t1131 w _ ?side1 ?side2 A3.out).mono ?_); (case side1 => exact IsS108.at HI1122); (case side2 => exact atB HB); rintro e w10 ⟨rfl, hi, hb, hk⟩; refine ⟨_, rfl, ?_⟩; replace HO1125 := IsS108.keepR HI1122 HO1125 hk; replace HB := Aside0.mk (hb); replace HI1122 := Aside0.mk (hi); (try clear hb); (try clear hb2); (try clear hk); (try clear hi)) | ((with_reducible refine gate_callee (f := 171) rfl ?_); refine goesA (some 19) Try.func171 #[.pointer (some ⟨gb1122, 0, none⟩), .int .i64 9] ?_; (with_reducible refine (spec_l1Cur_pick.calls gb1122 l0 t1130 t1131 9 t1132 t1133 t1134 w _ ?side1 ?side2 A4.out).mono ?_); (case side1 => exact IsS108.at HI1122); (case side2 => exact atB HB); rintro e w11 ⟨rfl, hi, hb, hk⟩; refine ⟨_, rfl, ?_⟩; replace HO1125 := IsS108.keepR HI1122 HO1125 hk; replace HB := Aside0.mk (hb); replace HI1122 := Aside0.mk (hi); (try clear hb); (try clear hb2); (try clear hk); (try clear hi)))
 go_ret2
 exact ⟨eqr, atB HB⟩


end Go.Proofs.Ytaohgllnoomaeaa.Fn
namespace Go.Proofs.Ytaohgllnoomaeaa.Fn
open Go.RowKit Go.Proofs.YtaohgllnoomaeaaW.PrintWords Go.Proofs.YtaohgllnoomaeaaW.PrintLast Go.Proofs.YtaohgllnoomaeaaW.PrintMore
attribute [local go_sem] max2_int min2_int max_two min_two max_three min_three max_four min_four   -- for this text's walks alone
set_option linter.unusedVariables false
set_option linter.unusedSimpArgs false

/-! ### spec_DrawAllExtended: function 106 -/
def spec_DrawAllExtended.f (l0 : List Int) : Option (Int × Int) := (spec_DrawCountExtended.f l0).bind fun bt1135 => (some (bt1135.1, bt1135.2))
set_option maxHeartbeats 8000000 in
set_option maxRecDepth 100000 in
theorem spec_DrawAllExtended.calls (A0 : Option Addr) (c0 : Nat) (l0 : List Int) (r1 : Int) (r2 : Int) (w : World) (hr0 : Kd.C (Kd.int .u8) w A0 l0.length l0) (hc0 : l0.length ≤ c0) (h : spec_DrawAllExtended.f l0 = some (r1, r2)) :
  Calls Try.prog 106 #[.slice A0 l0.length c0] w fun e w' => e = .returned (.tuple #[.int .i64 r1, .int .i64 r2]) ∧ Below w.heap.size w w' := by
 have HR0 := Aside0.mk hr0
 have HC0 := Aside0.mk hc0
 clear hr0 hc0
 have HB := Aside0.mk (Below.refl w.heap.size w)
 have H := h
 unfold spec_DrawAllExtended.f at H
 clear h
 replace H := Option.bind_eq_some_iff.mp H
 obtain ⟨⟨t1135, t1136⟩, A20, H⟩ := H
 replace H : (some (t1135, t1136)) = some (r1, r2) := H
 have A2 := Aside0.mk A20
 clear A20
 simp only [Option.some.injEq, Prod.mk.injEq] at H
 obtain ⟨rfl, rfl⟩ := H
 go_enter Try.func106, Try.ntmps106
 go_wp2_with (first | ((with_reducible refine gate_callee (f := 218) rfl ?_); refine goesA (some 5) Try.func218 #[.slice A0 l0.length c0] ?_; (with_reducible refine (spec_DrawCountExtended.calls _ _ l0 t1135 t1136 _ ?side1 ?side2 A2.out).mono ?_); (case side1 => repeat (first | exact HR0.out | (with_reducible refine Kd.C_alloc ?_ _) | (with_reducible refine Kd.C_drewN ?_ _) | (with_reducible refine Kd.C_drew ?_))); (case side2 => exact HC0.out); rintro e w3 ⟨rfl, hb⟩; refine ⟨_, rfl, ?_⟩; replace HB := upB HB hb; (try clear hb); (try clear hb2); (try clear hk); (try clear hi)))
 go_ret2
 exact ⟨eqr, atB HB⟩


end Go.Proofs.Ytaohgllnoomaeaa.Fn
namespace Go.Proofs.Ytaohgllnoomaeaa.Fn
open Go.RowKit Go.Proofs.YtaohgllnoomaeaaW.PrintWords Go.Proofs.YtaohgllnoomaeaaW.PrintLast Go.Proofs.YtaohgllnoomaeaaW.PrintMore
attribute [local go_sem] max2_int min2_int max_two min_two max_three min_three max_four min_four   -- for this text's walks alone
set_option linter.unusedVariables false
set_option linter.unusedSimpArgs false

/-! ### spec_l1In: function 192 -/
def spec_l1In.f (a0 : Int) (a1 : Int) (a2 : Int) : Option (Bool) := if a0 ≥ a1 then (some (decide (a0 ≤ a2))) else (some false)
set_option maxHeartbeats 8000000 in
set_option maxRecDepth 100000 in
theorem spec_l1In.calls (a0 : Int) (a1 : Int) (a2 : Int) (r : Bool) (w : World) (h : spec_l1In.f a0 a1 a2 = some r) :
  Calls Try.prog 192 #[.int .i64 a0, .int .i64 a1, .int .i64 a2] w fun e w' => e = .returned (.bool r) ∧ Drawn0 w w' := by
 have H := h
 unfold spec_l1In.f at H
 clear h
 by_cases c4 : a0 ≥ a1
 ·rw [if_pos c4] at H
  have c4b0 : decide (a1 ≤ a0) = true := decide_eq_true c4
  clear c4
  obtain rfl := Option.some.inj H
  go_enter Try.func192, Try.ntmps192
  go_wp2
  go_ret
  exact ⟨by first | rfl | (simp; done) | (simp [*]; done), by repeat (first | exact Drawn0.refl _ | apply Drawn0.step)⟩
 ·rw [if_neg c4] at H
  have c4b0 : decide (a1 ≤ a0) = false := decide_eq_false c4
  clear c4
  obtain rfl := Option.some.inj H
  go_enter Try.func192, Try.ntmps192
  go_wp2
  go_ret
  exact ⟨by first | rfl | (simp; done) | (simp [*]; done), by repeat (first | exact Drawn0.refl _ | apply Drawn0.step)⟩


end Go.Proofs.Ytaohgllnoomaeaa.Fn
namespace Go.Proofs.Ytaohgllnoomaeaa.Fn
open Go.RowKit Go.Proofs.YtaohgllnoomaeaaW.PrintWords Go.Proofs.YtaohgllnoomaeaaW.PrintLast Go.Proofs.YtaohgllnoomaeaaW.PrintMore
attribute [local go_sem] max2_int min2_int max_two min_two max_three min_three max_four min_four   -- for this text's walks alone
set_option linter.unusedVariables false
set_option linter.unusedSimpArgs false

/-! ### spec_hoAsked: function 220 -/
def spec_hoAsked.f (a0 : Int) (a1 : Int) (a2 : Int) : Option (Bool) := (spec_l1In.f a0 1 a1).bind fun t1137 => (if t1137 = true then ((spec_l1In.f a2 0 (wrap64 (2 * a0))).bind fun t1138 => (some t1138)) else (some false))
set_option maxHeartbeats 8000000 in
set_option maxRecDepth 100000 in
theorem spec_hoAsked.calls (a0 : Int) (a1 : Int) (a2 : Int) (r : Bool) (w : World) (h : spec_hoAsked.f a0 a1 a2 = some r) :
  Calls Try.prog 220 #[.int .i64 a0, .int .i64 a1, .int .i64 a2] w fun e w' => e = .returned (.bool r) ∧ Drawn0 w w' := by
 have H := h
 unfold spec_hoAsked.f at H
 clear h
 replace H := Option.bind_eq_some_iff.mp H
 obtain ⟨t1137, A40, H⟩ := H
 replace H : (if t1137 = true then ((spec_l1In.f a2 0 (wrap64 (2 * a0))).bind fun t1138 => (some t1138)) else (some false)) = some r := H
 have A4 := Aside0.mk A40
 clear A40
 by_cases c5 : t1137 = true
 ·subst c5
  have H1 : ((spec_l1In.f a2 0 (wrap64 (2 * a0))).bind fun t1138 => (some t1138)) = some r := by rw [if_pos rfl] at H; exact H
  clear H
  have H := H1
  clear H1
  replace H := Option.bind_eq_some_iff.mp H
  obtain ⟨t1138, A60, H⟩ := H
  replace H : (some t1138) = some r := H
  have A6 := Aside0.mk A60
  clear A60
  obtain rfl := Option.some.inj H
  go_enter Try.func220, Try.ntmps220
  go_wp2_with (first | ((with_reducible refine gate_callee (f := 192) rfl ?_); refine goesA (some 9) Try.func192 #[.int .i64 a0, .int .i64 1, .int .i64 a1] ?_; (with_reducible refine (spec_l1In.calls a0 1 a1 true _ A4.out).mono ?_); rintro e w' ⟨rfl, ⟨nd, rfl⟩⟩; refine ⟨_, rfl, ?_⟩) | (go_at_call 192; (with_reducible refine (spec_l1In.calls a2 0 (wrap64 (2 * a0)) t1138 _ A6.out).mono ?_); rintro e w' ⟨rfl, ⟨nd, rfl⟩⟩))
  go_ret
  exact ⟨by first | rfl | (simp; done) | (simp [*]; done), by repeat (first | exact Drawn0.refl _ | apply Drawn0.step)⟩
 ·replace c5 := Bool.eq_false_iff.mpr c5
  subst c5
  have H1 : (some false) = some r := by rw [if_neg (show ¬ (false = true) by decide)] at H; exact H
  clear H
  have H := H1
  clear H1
  obtain rfl := Option.some.inj H
  go_enter Try.func220, Try.ntmps220
  go_wp2_with (first | ((with_reducible refine gate_callee (f := 192) rfl ?_); refine goesA (some 9) Try.func192 #[.int .i64 a0, .int .i64 1, .int .i64 a1] ?_; (with_reducible refine (spec_l1In.calls a0 1 a1 false _ A4.out).mono ?_); rintro e w' ⟨rfl, ⟨nd, rfl⟩⟩; refine ⟨_, rfl, ?_⟩))
  go_ret
  exact ⟨by first | rfl | (simp; done) | (simp [*]; done), by repeat (first | exact Drawn0.refl _ | apply Drawn0.step)⟩


end Go.Proofs.Ytaohgllnoomaeaa.Fn
namespace Go.Proofs.Ytaohgllnoomaeaa.Fn
open Go.RowKit Go.Proofs.YtaohgllnoomaeaaW.PrintWords Go.Proofs.YtaohgllnoomaeaaW.PrintLast Go.Proofs.YtaohgllnoomaeaaW.PrintMore
attribute [local go_sem] max2_int min2_int max_two min_two max_three min_three max_four min_four   -- for this text's walks alone
set_option linter.unusedVariables false
set_option linter.unusedSimpArgs false

/-! ### spec_seAll: function 221 (given) -/
/-! ### the reference's search from its beginning -/
def SeRet (from_ to_ shift hole most : Int) (p : Nat) (s' : SeSt) (w : World) (e : Ending) (w' : World) : Prop := ∃ (gS gr : Nat), e = .returned (.pointer (some ⟨gS, 0, none⟩)) ∧ w.heap.size ≤ gS ∧ w.heap.size ≤ gr ∧ gS ≠ gr ∧ SeI w.heap.size gS gr from_ to_ shift hole most (List.replicate p 0) 0 s' w' ∧ Below w.heap.size w w'
set_option maxHeartbeats 8000000 in
set_option maxRecDepth 100000 in
theorem seAll_hole (from_ to_ shift hole most : Int) (p : Nat) (s' : SeSt) (w : World) (hfr : 1 ≤ from_ ∧ from_ ≤ 20) (hto : 0 ≤ to_ ∧ to_ ≤ 40) (hs : 0 ≤ shift ∧ shift ≤ 1) (hft : from_ ≤ to_) (hh : 0 ≤ hole) (hp : (p : Int) = 2 * (to_ - from_ + 1) + 1) (h : seF from_ to_ shift hole most (p + 1) (0, []) (List.replicate p 0) 0 = some s') :
  Calls Try.prog 221 #[.int .i64 from_, .int .i64 to_, .int .i64 shift, .int .i64 hole, .int .i64 most] w (SeRet from_ to_ shift hole most p s' w) := by
 have HPL := Aside0.mk (show p ≤ 100 by omega)
 have HP := Aside0.mk (show p ≤ 1000 by omega)
 have HF := Aside0.mk (show (1 ≤ from_ ∧ from_ ≤ 20) ∧ (0 ≤ to_ ∧ to_ ≤ 40) ∧ (0 ≤ shift ∧ shift ≤ 1) ∧ 0 < p from ⟨hfr, hto, hs, by omega⟩)
 have H := Aside0.mk h
 have HW := Aside0.mk (show wrap64 (wrap64 (2 * wrap64 (wrap64 (to_ - from_) + 1)) + 1) = (p : Int) by rw [wrap_in (n := to_ - from_) (by omega) (by omega), wrap_in (n := to_ - from_ + 1) (by omega) (by omega), wrap_in (n := 2 * (to_ - from_ + 1)) (by omega) (by omega), wrap_in (by omega) (by omega)]; omega)
 have b1 : decide (0 ≤ hole) = true := decide_eq_true hh
 clear h hs hft hp hh hfr hto
 go_enter Try.func221, Try.ntmps221
 go_wp2_with (first | ((with_reducible refine gate_dst (N := 23) rfl ?_); refine IB_make_event (N := 23) (x := .tmp 22) (y := .tmp 22) (n := p) ?hg ?hd ?ho ?hx ?hy HP.out ?_; (case hg => rfl); (case hd => rfl); (case ho => rfl); (case hx => exact congrArg (Value.int .i64) HW.out); (case hy => exact congrArg (Value.int .i64) HW.out); intro gr hgr w1 hI1 hB1; have HGR := Aside0.mk hgr; have HI1 := Aside0.mk hI1; have HB1 := Aside0.mk hB1; clear hgr hI1 hB1) | ((with_reducible refine gate_dst (N := 30) rfl ?_); refine box_event ?hg (N := 30) ?hd (cs := #[.slice (some ⟨gr, 0, none⟩) p p, .int .i64 from_, .int .i64 to_, .int .i64 shift, .int .i64 hole, .int .i64 0, .int .i64 most, .int .i64 0, .slice none 0 0]) (t := 96) ?hr ?_; (case hd => rfl); (case hg => rfl); (case hr => first | (go_simp; done) | (go_simp; rfl)); intro gS hg w2 hbox hb; have BK := Aside0.mk hbox; have HB2 := Aside0.mk hb; have GS := Aside0.mk hg; clear hg hbox hb) | ((with_reducible refine gate_callee (f := 254) rfl ?_); have HSI := Aside0.mk (show SeI w.heap.size gS gr from_ to_ shift hole most (List.replicate p 0) 0 (0, []) w2 from ⟨⟨_, by rw [List.length_replicate]; exact BK.out, Kd.S_nil _ _ _ _ _⟩, IB_below HI1.out HB2.out⟩); have HBB := Aside0.mk (show Below w.heap.size w w2 from HB1.out.trans (HB2.out.mono HB1.out.size)); have HNE := Aside0.mk (show gS ≠ gr from fun e => by have h1 := blk_lt HI1.out; have h2 := GS.out; omega); have HG1 := Aside0.mk (show w.heap.size ≤ gS by have h1 := HB1.out.size; have h2 := GS.out; omega); have HG2 := Aside0.mk (show w.heap.size ≤ gr by have h2 := HGR.out; omega); have HCALL := Aside0.mk (look_call HF.out.1 HF.out.2.1 HF.out.2.2.1 HNE.out HG1.out HG2.out (p + 1) (0, []) s' (List.replicate p 0) 0 w2 HBB.out.size (by rw [List.length_replicate]; exact HF.out.2.2.2) (by rw [List.length_replicate]; have := HPL.out; omega) (by decide) HSI.out H.out); refine goesL_ (some 32) rfl rfl Try.func254 (by kernel_rfl) rfl #[.pointer (some ⟨gS, 0, none⟩)] rfl (by (try simp only [List.map_toArray, List.map_cons, List.map_nil]); first | done | rfl) ?_; refine HCALL.out.mono ?_; rintro e w3 ⟨rfl, hI3, hB3⟩; refine ⟨_, rfl, ?_⟩; have HI3 := Aside0.mk hI3; have HB3 := Aside0.mk hB3; clear hI3 hB3 HCALL))
 go_ret
 exact ⟨gS, gr, rfl, HG1.out, HG2.out, HNE.out, HI3.out, HBB.out.trans HB3.out⟩
set_option maxHeartbeats 8000000 in
set_option maxRecDepth 100000 in
theorem seAll_none (from_ to_ shift hole most : Int) (p : Nat) (s' : SeSt) (w : World) (hfr : 1 ≤ from_ ∧ from_ ≤ 20) (hto : 0 ≤ to_ ∧ to_ ≤ 40) (hs : 0 ≤ shift ∧ shift ≤ 1) (hft : from_ ≤ to_) (hh : hole < 0) (hp : (p : Int) = 2 * (to_ - from_ + 1)) (h : seF from_ to_ shift hole most (p + 1) (0, []) (List.replicate p 0) 0 = some s') :
  Calls Try.prog 221 #[.int .i64 from_, .int .i64 to_, .int .i64 shift, .int .i64 hole, .int .i64 most] w (SeRet from_ to_ shift hole most p s' w) := by
 have HPL := Aside0.mk (show p ≤ 100 by omega)
 have HP := Aside0.mk (show p ≤ 1000 by omega)
 have HF := Aside0.mk (show (1 ≤ from_ ∧ from_ ≤ 20) ∧ (0 ≤ to_ ∧ to_ ≤ 40) ∧ (0 ≤ shift ∧ shift ≤ 1) ∧ 0 < p from ⟨hfr, hto, hs, by omega⟩)
 have H := Aside0.mk h
 have HW := Aside0.mk (show wrap64 (2 * wrap64 (wrap64 (to_ - from_) + 1)) = (p : Int) by rw [wrap_in (n := to_ - from_) (by omega) (by omega), wrap_in (n := to_ - from_ + 1) (by omega) (by omega), wrap_in (by omega) (by omega)]; omega)
 have b1 : decide (0 ≤ hole) = false := decide_eq_false (by omega)
 clear h hs hft hp hh hfr hto
 go_enter Try.func221, Try.ntmps221
 go_wp2_with (first | ((with_reducible refine gate_dst (N := 23) rfl ?_); refine IB_make_event (N := 23) (x := .tmp 22) (y := .tmp 22) (n := p) ?hg ?hd ?ho ?hx ?hy HP.out ?_; (case hg => rfl); (case hd => rfl); (case ho => rfl); (case hx => exact congrArg (Value.int .i64) HW.out); (case hy => exact congrArg (Value.int .i64) HW.out); intro gr hgr w1 hI1 hB1; have HGR := Aside0.mk hgr; have HI1 := Aside0.mk hI1; have HB1 := Aside0.mk hB1; clear hgr hI1 hB1) | ((with_reducible refine gate_dst (N := 30) rfl ?_); refine box_event ?hg (N := 30) ?hd (cs := #[.slice (some ⟨gr, 0, none⟩) p p, .int .i64 from_, .int .i64 to_, .int .i64 shift, .int .i64 hole, .int .i64 0, .int .i64 most, .int .i64 0, .slice none 0 0]) (t := 96) ?hr ?_; (case hd => rfl); (case hg => rfl); (case hr => first | (go_simp; done) | (go_simp; rfl)); intro gS hg w2 hbox hb; have BK := Aside0.mk hbox; have HB2 := Aside0.mk hb; have GS := Aside0.mk hg; clear hg hbox hb) | ((with_reducible refine gate_callee (f := 254) rfl ?_); have HSI := Aside0.mk (show SeI w.heap.size gS gr from_ to_ shift hole most (List.replicate p 0) 0 (0, []) w2 from ⟨⟨_, by rw [List.length_replicate]; exact BK.out, Kd.S_nil _ _ _ _ _⟩, IB_below HI1.out HB2.out⟩); have HBB := Aside0.mk (show Below w.heap.size w w2 from HB1.out.trans (HB2.out.mono HB1.out.size)); have HNE := Aside0.mk (show gS ≠ gr from fun e => by have h1 := blk_lt HI1.out; have h2 := GS.out; omega); have HG1 := Aside0.mk (show w.heap.size ≤ gS by have h1 := HB1.out.size; have h2 := GS.out; omega); have HG2 := Aside0.mk (show w.heap.size ≤ gr by have h2 := HGR.out; omega); have HCALL := Aside0.mk (look_call HF.out.1 HF.out.2.1 HF.out.2.2.1 HNE.out HG1.out HG2.out (p + 1) (0, []) s' (List.replicate p 0) 0 w2 HBB.out.size (by rw [List.length_replicate]; exact HF.out.2.2.2) (by rw [List.length_replicate]; have := HPL.out; omega) (by decide) HSI.out H.out); refine goesL_ (some 32) rfl rfl Try.func254 (by kernel_rfl) rfl #[.pointer (some ⟨gS, 0, none⟩)] rfl (by (try simp only [List.map_toArray, List.map_cons, List.map_nil]); first | done | rfl) ?_; refine HCALL.out.mono ?_; rintro e w3 ⟨rfl, hI3, hB3⟩; refine ⟨_, rfl, ?_⟩; have HI3 := Aside0.mk hI3; have HB3 := Aside0.mk hB3; clear hI3 hB3 HCALL))
 go_ret
 exact ⟨gS, gr, rfl, HG1.out, HG2.out, HNE.out, HI3.out, HBB.out.trans HB3.out⟩
/-- The list that a search keeps. -/
def spec_seAll.f (a0 a1 a2 a3 a4 : Int) : Option (List (List Int)) := if (1 ≤ a0 ∧ a0 ≤ 20) ∧ (0 ≤ a1 ∧ a1 ≤ 40) ∧ (0 ≤ a2 ∧ a2 ≤ 1) ∧ a0 ≤ a1 then (if 0 ≤ a3 then (seF a0 a1 a2 a3 a4 (2 * (a1 - a0 + 1).toNat + 1 + 1) (0, []) (List.replicate (2 * (a1 - a0 + 1).toNat + 1) 0) 0).map (·.2) else (seF a0 a1 a2 a3 a4 (2 * (a1 - a0 + 1).toNat + 1) (0, []) (List.replicate (2 * (a1 - a0 + 1).toNat) 0) 0).map (·.2)) else none
theorem spec_seAll.calls (a0 a1 a2 a3 a4 : Int) (r1 : List (List Int)) (w : World) (h : spec_seAll.f a0 a1 a2 a3 a4 = some r1) :
  Calls Try.prog 221 #[.int .i64 a0, .int .i64 a1, .int .i64 a2, .int .i64 a3, .int .i64 a4] w fun e w' => ∃ v0_ : Value, (∃ gS, e = .returned (.pointer (some ⟨gS, 0, none⟩)) ∧ w'.cell? ⟨gS, 8, none⟩ = some v0_) ∧ Kd.S (Kd.slice 3 (Kd.int .i64)) 31 w' w.heap.size (fun _ => True) v0_ r1 ∧ Below w.heap.size w w' := by
 unfold spec_seAll.f at h
 split at h
 case isFalse => cases h
 rename_i hn
 have key : ∃ p s', r1 = s'.2 ∧ Calls Try.prog 221 #[.int .i64 a0, .int .i64 a1, .int .i64 a2, .int .i64 a3, .int .i64 a4] w (SeRet a0 a1 a2 a3 a4 p s' w) := by
  split at h
  ·obtain ⟨s', hrun, rfl⟩ := Option.map_eq_some_iff.1 h
   exact ⟨_, s', rfl, seAll_hole a0 a1 a2 a3 a4 _ s' w hn.1 hn.2.1 hn.2.2.1 hn.2.2.2 (by omega) (by omega) hrun⟩
  ·obtain ⟨s', hrun, rfl⟩ := Option.map_eq_some_iff.1 h
   exact ⟨_, s', rfl, seAll_none a0 a1 a2 a3 a4 _ s' w hn.1 hn.2.1 hn.2.2.1 hn.2.2.2 (by omega) (by omega) hrun⟩
 obtain ⟨p, s', rfl, hc⟩ := key
 refine hc.mono ?_
 rintro e w' ⟨gS, gr, rfl, hgS, hgr, hne, hI, hB⟩
 obtain ⟨⟨v, ho, hS⟩, hrow⟩ := hI
 have hc8 := blk_cell ho 8
 simp only [List.getElem?_toArray, List.getElem?_cons_zero, List.getElem?_cons_succ] at hc8
 exact ⟨v, ⟨gS, rfl, hc8⟩, Kd.S_mono hS (fun _ _ => trivial), hB⟩


end Go.Proofs.Ytaohgllnoomaeaa.Fn
namespace Go.Proofs.Ytaohgllnoomaeaa.Fn
open Go.RowKit Go.Proofs.YtaohgllnoomaeaaW.PrintWords Go.Proofs.YtaohgllnoomaeaaW.PrintLast Go.Proofs.YtaohgllnoomaeaaW.PrintMore
attribute [local go_sem] max2_int min2_int max_two min_two max_three min_three max_four min_four   -- for this text's walks alone
set_option linter.unusedVariables false
set_option linter.unusedSimpArgs false

/-! ### spec_AllExtended: function 108 (given) -/
theorem all_ask_below {w w' : World} (h : Drawn0 w w') : Below w.heap.size w w' := by
 obtain ⟨n, rfl⟩ := h
 exact pw_below_drewN (Below.refl _ _) n
def spec_AllExtended.f (a0 : Int) (a1 : Int) : Option (List (List Int) × Bool) := (spec_hoAsked.f a0 7 a1).bind fun t => if t = true then (if 1 ≤ a0 ∧ a0 ≤ 7 ∧ 0 ≤ a1 then (seF 1 a0 0 a1 100000 (2 * a0.toNat + 1 + 1) (0, []) (List.replicate (2 * a0.toNat + 1) 0) 0).bind fun s => some (s.2, true) else none) else some ([], false)
set_option maxHeartbeats 8000000 in
set_option maxRecDepth 100000 in
theorem spec_AllExtended.calls (a0 : Int) (a1 : Int) (r1 : List (List Int)) (r2 : Bool) (w : World) (h : spec_AllExtended.f a0 a1 = some (r1, r2)) :
  Calls Try.prog 108 #[.int .i64 a0, .int .i64 a1] w fun e w' => ∃ v0_ : Value, e = .returned (.tuple #[v0_, .bool r2]) ∧ Kd.S (Kd.slice 3 (Kd.int .i64)) 31 w' w.heap.size (fun _ => True) v0_ r1 ∧ Below w.heap.size w w' := by
 obtain ⟨t1, hA, h⟩ := Option.bind_eq_some_iff.1 h
 have A1 := Aside0.mk hA
 cases t1 with
 | false =>
  rw [if_neg (by decide)] at h
  obtain ⟨rfl, rfl⟩ := Prod.mk.inj (Option.some.inj h)
  clear hA h
  go_enter Try.func108, Try.ntmps108
  go_wp2_with (first | ((with_reducible refine gate_callee (f := 220) rfl ?_); refine goesA (some 8) Try.func220 #[.int .i64 a0, .int .i64 7, .int .i64 a1] ?_; refine (spec_hoAsked.calls a0 7 a1 false w A1.out).mono ?_; rintro e w1 ⟨rfl, hb1⟩; refine ⟨_, rfl, ?_⟩; have HB1 := Aside0.mk (all_ask_below hb1); clear hb1))
  go_ret2
  exact ⟨_, rfl, Kd.S_nil _ _ _ _ _, HB1.out⟩
 | true =>
  rw [if_pos rfl] at h
  split at h
  case isFalse => cases h
  rename_i hcond
  obtain ⟨s', hrun, h⟩ := Option.bind_eq_some_iff.1 h
  obtain ⟨rfl, rfl⟩ := Prod.mk.inj (Option.some.inj h)
  clear h
  have HALL := Aside0.mk (fun w1 : World => seAll_hole 1 a0 0 a1 100000 (2 * a0.toNat + 1) s' w1 (by omega) (by omega) (by omega) (by omega) (by omega) (by omega) hrun)
  clear hA hrun hcond
  go_enter Try.func108, Try.ntmps108
  go_wp2_with (first | ((with_reducible refine gate_callee (f := 220) rfl ?_); refine goesA (some 8) Try.func220 #[.int .i64 a0, .int .i64 7, .int .i64 a1] ?_; refine (spec_hoAsked.calls a0 7 a1 true w A1.out).mono ?_; rintro e w1 ⟨rfl, hb1⟩; refine ⟨_, rfl, ?_⟩; have HB1 := Aside0.mk (all_ask_below hb1); clear hb1) | ((with_reducible refine gate_callee (f := 221) rfl ?_); refine goesA (some 12) Try.func221 #[.int .i64 1, .int .i64 a0, .int .i64 0, .int .i64 a1, .int .i64 100000] ?_; refine (HALL.out w1).mono ?_; rintro e w2 ⟨gS, gr, rfl, hgS, hgr, hne, hI2, hB2⟩; refine ⟨_, rfl, ?_⟩; have HGS := Aside0.mk hgS; have HGR := Aside0.mk hgr; have HNE := Aside0.mk hne; have HI2 := Aside0.mk hI2; have HB2 := Aside0.mk hB2; clear hgS hgr hne hI2 hB2; obtain ⟨v8, ho8, hs8⟩ := HI2.out.out; obtain ⟨A8, c8, e8⟩ := Kd.S_slice hs8; subst e8; have HS8 := Aside0.mk hs8; have hc8 := blk_cell ho8 8; simp only [List.getElem?_toArray, List.getElem?_cons_zero, List.getElem?_cons_succ] at hc8; clear ho8 hs8))
  go_ret2
  exact ⟨_, rfl, Kd.S_mono (Kd.S_lower HS8.out HB1.out.size) (fun _ _ => trivial), HB1.out.trans (HB2.out.mono HB1.out.size)⟩


end Go.Proofs.Ytaohgllnoomaeaa.Fn
namespace Go.Proofs.Ytaohgllnoomaeaa.Fn
open Go.RowKit Go.Proofs.YtaohgllnoomaeaaW.PrintWords Go.Proofs.YtaohgllnoomaeaaW.PrintLast Go.Proofs.YtaohgllnoomaeaaW.PrintMore
attribute [local go_sem] max2_int min2_int max_two min_two max_three min_three max_four min_four   -- for this text's walks alone
set_option linter.unusedVariables false
set_option linter.unusedSimpArgs false

/-! ### spec_CountExtended: function 110 (given) -/
theorem ask_below {w w' : World} (h : Drawn0 w w') : Below w.heap.size w w' := by
 obtain ⟨n, rfl⟩ := h
 exact pw_below_drewN (Below.refl _ _) n
def spec_CountExtended.f (a0 : Int) (a1 : Int) : Option (Int × Bool) := (spec_hoAsked.f a0 7 a1).bind fun t => if t = true then (if 1 ≤ a0 ∧ a0 ≤ 7 ∧ 0 ≤ a1 then (seF 1 a0 0 a1 0 (2 * a0.toNat + 1 + 1) (0, []) (List.replicate (2 * a0.toNat + 1) 0) 0).bind fun s => some ((s.1 : Int), true) else none) else some (0, false)
set_option maxHeartbeats 8000000 in
set_option maxRecDepth 100000 in
theorem spec_CountExtended.calls (a0 : Int) (a1 : Int) (r1 : Int) (r2 : Bool) (w : World) (h : spec_CountExtended.f a0 a1 = some (r1, r2)) :
  Calls Try.prog 110 #[.int .i64 a0, .int .i64 a1] w fun e w' => e = .returned (.tuple #[.int .i64 r1, .bool r2]) ∧ Below w.heap.size w w' := by
 obtain ⟨t1, hA, h⟩ := Option.bind_eq_some_iff.1 h
 have A1 := Aside0.mk hA
 cases t1 with
 | false =>
  rw [if_neg (by decide)] at h
  obtain ⟨rfl, rfl⟩ := Prod.mk.inj (Option.some.inj h)
  clear hA h
  go_enter Try.func110, Try.ntmps110
  go_wp2_with (first | ((with_reducible refine gate_callee (f := 220) rfl ?_); refine goesA (some 8) Try.func220 #[.int .i64 a0, .int .i64 7, .int .i64 a1] ?_; refine (spec_hoAsked.calls a0 7 a1 false w A1.out).mono ?_; rintro e w1 ⟨rfl, hb1⟩; refine ⟨_, rfl, ?_⟩; have HB1 := Aside0.mk (ask_below hb1); clear hb1))
  go_ret2
  exact ⟨rfl, HB1.out⟩
 | true =>
  rw [if_pos rfl] at h
  split at h
  case isFalse => cases h
  rename_i hcond
  obtain ⟨s', hrun, h⟩ := Option.bind_eq_some_iff.1 h
  obtain ⟨rfl, rfl⟩ := Prod.mk.inj (Option.some.inj h)
  clear h
  have HALL := Aside0.mk (fun w1 : World => seAll_hole 1 a0 0 a1 0 (2 * a0.toNat + 1) s' w1 (by omega) (by omega) (by omega) (by omega) (by omega) (by omega) hrun)
  clear hA hrun hcond
  go_enter Try.func110, Try.ntmps110
  go_wp2_with (first | ((with_reducible refine gate_callee (f := 220) rfl ?_); refine goesA (some 8) Try.func220 #[.int .i64 a0, .int .i64 7, .int .i64 a1] ?_; refine (spec_hoAsked.calls a0 7 a1 true w A1.out).mono ?_; rintro e w1 ⟨rfl, hb1⟩; refine ⟨_, rfl, ?_⟩; have HB1 := Aside0.mk (ask_below hb1); clear hb1) | ((with_reducible refine gate_callee (f := 221) rfl ?_); refine goesA (some 12) Try.func221 #[.int .i64 1, .int .i64 a0, .int .i64 0, .int .i64 a1, .int .i64 0] ?_; refine (HALL.out w1).mono ?_; rintro e w2 ⟨gS, gr, rfl, hgS, hgr, hne, hI2, hB2⟩; refine ⟨_, rfl, ?_⟩; have HGS := Aside0.mk hgS; have HGR := Aside0.mk hgr; have HNE := Aside0.mk hne; have HI2 := Aside0.mk hI2; have HB2 := Aside0.mk hB2; clear hgS hgr hne hI2 hB2; obtain ⟨v8, ho8, hs8⟩ := HI2.out.out; have hc7 := blk_cell ho8 7; simp only [List.getElem?_toArray, List.getElem?_cons_zero, List.getElem?_cons_succ] at hc7; clear ho8 hs8))
  go_ret2
  exact ⟨rfl, HB1.out.trans (HB2.out.mono HB1.out.size)⟩


end Go.Proofs.Ytaohgllnoomaeaa.Fn
namespace Go.Proofs.Ytaohgllnoomaeaa.Fn
open Go.RowKit Go.Proofs.YtaohgllnoomaeaaW.PrintWords Go.Proofs.YtaohgllnoomaeaaW.PrintLast Go.Proofs.YtaohgllnoomaeaaW.PrintMore
attribute [local go_sem] max2_int min2_int max_two min_two max_three min_three max_four min_four   -- for this text's walks alone
set_option linter.unusedVariables false
set_option linter.unusedSimpArgs false

/-! ### spec_seFirst: function 152 (given) -/
/-- The first of rows that lie apart. -/
theorem S_row_first {w : World} {base : Nat} {ok : Nat → Prop} {v : Value} {row : List Int} {xs : List (List Int)} (h : Kd.S (Kd.slice 3 (Kd.int .i64)) 31 w base ok v (row :: xs)) : ∃ (P : Nat → Prop) (u : Value) (ad : Addr) (n c : Nat), Kd.R (Kd.int .i64) 3 w base P u row ∧ v = .slice (some ad) n c ∧ w.cell? ad = some u := by
 obtain ⟨f, h0, inner, ho, hr⟩ := h
 have hS : Kd.S (Kd.slice 3 (Kd.int .i64)) 31 w base ok v (row :: xs) := ⟨f, h0, inner, ho, hr⟩
 obtain ⟨u, hu, hR⟩ := hr.2 0 (row, 0) (Kd.zip_at rfl)
 rcases ho.2 with ⟨h1, _⟩ | ⟨g, cap, cur, hv, hg, hb, hnc, hcap, hsz, htk⟩
 ·exfalso
  obtain ⟨g0, cap0, hv0, _⟩ := Kd.S_form hS (by simp)
  rw [h1] at hv0
  injection hv0 with e1 _ _
  cases e1
 ·subst hv
  refine ⟨_, u, ⟨g, 0, none⟩, _, _, hR, rfl, ?_⟩
  rw [cell_of_row w g 0 cur _ _ hb]
  have h1 : cur.toList.take ((row :: xs).zipIdx.length * 1) = inner := htk
  have h2 : (inner.drop (0 * 1)).take 1 = [u] := hu
  rw [List.length_zipIdx, Nat.mul_one] at h1
  have h3 : inner[0]? = some u := by
   have h4 := congrArg (·[0]?) h2
   simpa [List.getElem?_take, List.getElem?_drop] using h4
  rw [← h1, List.getElem?_take, if_pos (by simp)] at h3
  simpa using h3
def seFirstOf (s : SeSt) : Option (List Int × Bool) := if s.1 = 0 then some ([], false) else match s.2 with
 | [] => none
 | x :: _ => if s.2.length < 1000000000000 then some (x, true) else none
set_option maxHeartbeats 8000000 in
set_option maxRecDepth 100000 in
theorem seFirst_call {base gS gr : Nat} {from_ to_ shift hole most : Int} (row : List Int) (used : Nat) (s : SeSt) (w : World) (hI : SeI base gS gr from_ to_ shift hole most row used s w) (r1 : List Int) (r2 : Bool) (h : seFirstOf s = some (r1, r2)) :
  Calls Try.prog 152 #[.pointer (some ⟨gS, 0, none⟩)] w fun e w' => ∃ v0_ : Value, e = .returned (.tuple #[v0_, .bool r2]) ∧ Kd.R (Kd.int .i64) 3 w' base (fun _ => True) v0_ r1 ∧ w' = w := by
 obtain ⟨⟨v, ho, hS⟩, hrow⟩ := hI
 have hc7 := blk_cell ho 7
 have hc8 := blk_cell ho 8
 simp only [List.getElem?_toArray, List.getElem?_cons_zero, List.getElem?_cons_succ] at hc7 hc8
 obtain ⟨c, xs⟩ := s
 unfold seFirstOf at h
 by_cases h0 : c = 0
 ·subst h0
  rw [if_pos rfl] at h
  obtain ⟨rfl, rfl⟩ := Prod.mk.inj (Option.some.inj h)
  clear h ho hS hrow hc8
  go_enter Try.func152, Try.ntmps152
  go_wp2
  go_ret2
  exact ⟨_, rfl, Kd.R_nil _ _ _ _ _, rfl⟩
 ·have b0 : ((c : Int) == 0) = false := beq_eq_false_iff_ne.mpr (by omega)
  rw [if_neg h0] at h
  cases xs with
  | nil => cases h
  | cons x xs =>
   simp only at h
   split at h
   case isFalse => cases h
   rename_i hlen
   obtain ⟨rfl, rfl⟩ := Prod.mk.inj (Option.some.inj h)
   obtain ⟨P, u, ad, n, c, hR, hv, hcu⟩ := S_row_first hS
   obtain ⟨A8, c8, e8⟩ := Kd.S_slice hS
   rw [hv] at e8
   injection e8 with e1 e2 e3
   subst hv
   subst e2
   have HR := Aside0.mk hR
   have q0 : ((0 : Int) < ((x :: xs).length : Int)) = True := eq_true (by simp)
   clear h ho hS hrow hR e1 e3 hlen h0
   obtain ⟨Au, cu, eu⟩ := Kd.R_slice HR.out
   subst eu
   have hlc : (x :: xs).length = xs.length + 1 := rfl
   go_enter Try.func152, Try.ntmps152
   go_wp2
   go_ret2
   exact ⟨_, rfl, Kd.R_mono HR.out (fun _ _ => trivial), rfl⟩


end Go.Proofs.Ytaohgllnoomaeaa.Fn
namespace Go.Proofs.Ytaohgllnoomaeaa.Fn
open Go.RowKit Go.Proofs.YtaohgllnoomaeaaW.PrintWords Go.Proofs.YtaohgllnoomaeaaW.PrintLast Go.Proofs.YtaohgllnoomaeaaW.PrintMore
attribute [local go_sem] max2_int min2_int max_two min_two max_three min_three max_four min_four   -- for this text's walks alone
set_option linter.unusedVariables false
set_option linter.unusedSimpArgs false

/-! ### spec_FirstExtended: function 112 (given) -/
theorem first_ask_below {w w' : World} (h : Drawn0 w w') : Below w.heap.size w w' := by
 obtain ⟨n, rfl⟩ := h
 exact pw_below_drewN (Below.refl _ _) n
def spec_FirstExtended.f (a0 : Int) (a1 : Int) : Option (List Int × Bool) := (spec_hoAsked.f a0 7 a1).bind fun t => if t = true then (if 1 ≤ a0 ∧ a0 ≤ 7 ∧ 0 ≤ a1 then (seF 1 a0 0 a1 1 (2 * a0.toNat + 1 + 1) (0, []) (List.replicate (2 * a0.toNat + 1) 0) 0).bind seFirstOf else none) else some ([], false)
set_option maxHeartbeats 8000000 in
set_option maxRecDepth 100000 in
theorem spec_FirstExtended.calls (a0 : Int) (a1 : Int) (r1 : List Int) (r2 : Bool) (w : World) (h : spec_FirstExtended.f a0 a1 = some (r1, r2)) :
  Calls Try.prog 112 #[.int .i64 a0, .int .i64 a1] w fun e w' => ∃ v0_ : Value, e = .returned (.tuple #[v0_, .bool r2]) ∧ Kd.R (Kd.int .i64) 3 w' w.heap.size (fun _ => True) v0_ r1 ∧ Below w.heap.size w w' := by
 obtain ⟨t1, hA, h⟩ := Option.bind_eq_some_iff.1 h
 have A1 := Aside0.mk hA
 cases t1 with
 | false =>
  rw [if_neg (by decide)] at h
  obtain ⟨rfl, rfl⟩ := Prod.mk.inj (Option.some.inj h)
  clear hA h
  go_enter Try.func112, Try.ntmps112
  go_wp2_with (first | ((with_reducible refine gate_callee (f := 220) rfl ?_); refine goesA (some 8) Try.func220 #[.int .i64 a0, .int .i64 7, .int .i64 a1] ?_; refine (spec_hoAsked.calls a0 7 a1 false w A1.out).mono ?_; rintro e w1 ⟨rfl, hb1⟩; refine ⟨_, rfl, ?_⟩; have HB1 := Aside0.mk (first_ask_below hb1); clear hb1))
  go_ret2
  exact ⟨_, rfl, Kd.R_nil _ _ _ _ _, HB1.out⟩
 | true =>
  rw [if_pos rfl] at h
  split at h
  case isFalse => cases h
  rename_i hcond
  obtain ⟨s', hrun, h⟩ := Option.bind_eq_some_iff.1 h
  have H := Aside0.mk h
  clear h
  have HALL := Aside0.mk (fun w1 : World => seAll_hole 1 a0 0 a1 1 (2 * a0.toNat + 1) s' w1 (by omega) (by omega) (by omega) (by omega) (by omega) (by omega) hrun)
  clear hA hrun hcond
  go_enter Try.func112, Try.ntmps112
  go_wp2_with (first | ((with_reducible refine gate_callee (f := 220) rfl ?_); refine goesA (some 8) Try.func220 #[.int .i64 a0, .int .i64 7, .int .i64 a1] ?_; refine (spec_hoAsked.calls a0 7 a1 true w A1.out).mono ?_; rintro e w1 ⟨rfl, hb1⟩; refine ⟨_, rfl, ?_⟩; have HB1 := Aside0.mk (first_ask_below hb1); clear hb1) | ((with_reducible refine gate_callee (f := 221) rfl ?_); refine goesA (some 12) Try.func221 #[.int .i64 1, .int .i64 a0, .int .i64 0, .int .i64 a1, .int .i64 1] ?_; refine (HALL.out w1).mono ?_; rintro e w2 ⟨gS, gr, rfl, hgS, hgr, hne, hI2, hB2⟩; refine ⟨_, rfl, ?_⟩; have HGS := Aside0.mk hgS; have HGR := Aside0.mk hgr; have HNE := Aside0.mk hne; have HI2 := Aside0.mk hI2; have HB2 := Aside0.mk hB2; clear hgS hgr hne hI2 hB2; skip) | ((with_reducible refine gate_callee (f := 152) rfl ?_); refine goesA (some 13) Try.func152 #[.pointer (some ⟨gS, 0, none⟩)] ?_; refine (seFirst_call _ 0 s' w2 HI2.out r1 r2 H.out).mono ?_; rintro e w3 ⟨v3, rfl, hR3, hw3⟩; refine ⟨_, rfl, ?_⟩; subst hw3; have HR3 := Aside0.mk hR3; clear hR3))
  go_ret2
  exact ⟨_, rfl, Kd.R_lower HR3.out HB1.out.size, HB1.out.trans (HB2.out.mono HB1.out.size)⟩


end Go.Proofs.Ytaohgllnoomaeaa.Fn
namespace Go.Proofs.Ytaohgllnoomaeaa.Fn
open Go.RowKit Go.Proofs.YtaohgllnoomaeaaW.PrintWords Go.Proofs.YtaohgllnoomaeaaW.PrintLast Go.Proofs.YtaohgllnoomaeaaW.PrintMore
attribute [local go_sem] max2_int min2_int max_two min_two max_three min_three max_four min_four   -- for this text's walks alone
set_option linter.unusedVariables false
set_option linter.unusedSimpArgs false

/-! ### spec_seSkolem: function 163 (given) -/
/-- What the search of seSkolem comes to: how many, and the first of them. -/
def seSkolemRun (n : Nat) (most : Int) : Option SeSt := seF 1 n 0 (-1) most (2 * n + 1) (0, []) (List.replicate (2 * n) 0) 0
set_option maxHeartbeats 8000000 in
set_option maxRecDepth 100000 in
theorem seSkolem_call (n : Nat) (most : Int) (s' : SeSt) (w : World) (hn : 1 ≤ n ∧ n ≤ 20) (h : seSkolemRun n most = some s') :
  Calls Try.prog 163 #[.int .i64 (n : Int), .int .i64 most] w (SeRet 1 n 0 (-1) most (2 * n) s' w) := by
 have hw1 := wrap_in (n := 2 * (n : Int)) (by omega) (by omega)
 have hw2 := wrap_in (n := 2 * (n : Int) - 1) (by omega) (by omega)
 have HALL := Aside0.mk (seAll_none 1 n 0 (-1) most (2 * n) s' w (by omega) (by omega) (by omega) (by omega) (by omega) (by omega) h)
 clear h hn
 go_enter Try.func163, Try.ntmps163
 go_wp2_with (first | ((with_reducible refine gate_callee (f := 221) rfl ?_); refine goesA (some 7) Try.func221 #[.int .i64 1, .int .i64 (n : Int), .int .i64 0, .int .i64 (-1), .int .i64 most] ?_; refine HALL.out.mono ?_; rintro e w2 ⟨gS, gr, rfl, hgS, hgr, hne, hI2, hB2⟩; refine ⟨_, rfl, ?_⟩; have HGS := Aside0.mk hgS; have HGR := Aside0.mk hgr; have HNE := Aside0.mk hne; have HI2 := Aside0.mk hI2; have HB2 := Aside0.mk hB2; clear hgS hgr hne hI2 hB2))
 go_ret
 exact ⟨gS, gr, rfl, HGS.out, HGR.out, HNE.out, HI2.out, HB2.out⟩
/-- The list that a search keeps. -/
def spec_seSkolem.f (a0 : Int) (a1 : Int) : Option (List (List Int)) := if 1 ≤ a0 ∧ a0 ≤ 20 then (seSkolemRun a0.toNat a1).map (·.2) else none
theorem spec_seSkolem.calls (a0 a1 : Int) (r1 : List (List Int)) (w : World) (h : spec_seSkolem.f a0 a1 = some r1) :
  Calls Try.prog 163 #[.int .i64 a0, .int .i64 a1] w fun e w' => ∃ v0_ : Value, (∃ gS, e = .returned (.pointer (some ⟨gS, 0, none⟩)) ∧ w'.cell? ⟨gS, 8, none⟩ = some v0_) ∧ Kd.S (Kd.slice 3 (Kd.int .i64)) 31 w' w.heap.size (fun _ => True) v0_ r1 ∧ Below w.heap.size w w' := by
 unfold spec_seSkolem.f at h
 split at h
 case isFalse => cases h
 rename_i hn
 obtain ⟨s', hrun, rfl⟩ := Option.map_eq_some_iff.1 h
 have hc := seSkolem_call a0.toNat a1 s' w (by omega) hrun
 rw [show ((a0.toNat : Nat) : Int) = a0 from by omega] at hc
 refine hc.mono ?_
 rintro e w' ⟨gS, gr, rfl, hgS, hgr, hne, hI, hB⟩
 obtain ⟨⟨v, ho, hS⟩, hrow⟩ := hI
 have hc8 := blk_cell ho 8
 simp only [List.getElem?_toArray, List.getElem?_cons_zero, List.getElem?_cons_succ] at hc8
 exact ⟨v, ⟨gS, rfl, hc8⟩, Kd.S_mono hS (fun _ _ => trivial), hB⟩


end Go.Proofs.Ytaohgllnoomaeaa.Fn
namespace Go.Proofs.Ytaohgllnoomaeaa.Fn
open Go.RowKit Go.Proofs.YtaohgllnoomaeaaW.PrintWords Go.Proofs.YtaohgllnoomaeaaW.PrintLast Go.Proofs.YtaohgllnoomaeaaW.PrintMore
attribute [local go_sem] max2_int min2_int max_two min_two max_three min_three max_four min_four   -- for this text's walks alone
set_option linter.unusedVariables false
set_option linter.unusedSimpArgs false

/-! ### spec_l1Cur_one: function 170 -/
def spec_l1Cur_one.f (s0_0 : List Int) (s0_1 : Int) (s0_2 : Int) (a1 : Int) : Option (Bool × Int × Int) := (spec_l1Cur_pick.f s0_0 s0_1 s0_2 a1).bind fun bt291 => (some ((bt291.1 == 0), bt291.2.1, bt291.2.2))
set_option maxHeartbeats 8000000 in
set_option maxRecDepth 100000 in
theorem spec_l1Cur_one.calls (g : Nat) (s0_0 : List Int) (s0_1 : Int) (s0_2 : Int) (a1 : Int) (r1 : Bool) (r2 : Int) (r3 : Int) (w0 w : World) (hI : IsS108 w0 w g s0_0 s0_1 s0_2) (hB : Below w0.heap.size w0 w) (h : spec_l1Cur_one.f s0_0 s0_1 s0_2 a1 = some (r1, r2, r3)) :
  Calls Try.prog 170 #[.pointer (some ⟨g, 0, none⟩), .int .i64 a1] w fun e w' => e = .returned (.bool r1) ∧ IsS108 w0 w' g s0_0 r2 r3 ∧ Below w0.heap.size w0 w' ∧ KeepBut w w' g none := by
 have HI0 := Aside0.mk hI
 have HK := Aside0.mk (KeepBut.refl w g none)
 have HL := Aside0.mk hB.size
 clear hI
 have HW0 := Aside0.mk hB.size
 have HB := Aside0.mk hB
 clear hB
 have H := h
 unfold spec_l1Cur_one.f at H
 clear h
 replace H := Option.bind_eq_some_iff.mp H
 obtain ⟨⟨t291, t292, t293⟩, A30, H⟩ := H
 replace H : (some ((t291 == 0), t292, t293)) = some (r1, r2, r3) := H
 have A3 := Aside0.mk A30
 clear A30
 simp only [Option.some.injEq, Prod.mk.injEq] at H
 obtain ⟨rfl, rfl, rfl⟩ := H
 go_enter Try.func170, Try.ntmps170
 go_wp2_with (first | ((with_reducible refine gate_callee (f := 171) rfl ?_); refine goesA (some 7) Try.func171 #[.pointer (some ⟨g, 0, none⟩), .int .i64 a1] ?_; (with_reducible refine (spec_l1Cur_pick.calls g s0_0 s0_1 s0_2 a1 t291 t292 t293 w0 _ ?side1 ?side2 A3.out).mono ?_); (case side1 => exact IsS108.at HI0); (case side2 => exact atB HB); rintro e w4 ⟨rfl, hi, hb, hk⟩; refine ⟨_, rfl, ?_⟩; replace HK := upK HK hk; replace HB := Aside0.mk (hb); replace HI0 := Aside0.mk (hi); (try clear hb); (try clear hb2); (try clear hk); (try clear hi)))
 go_ret
 exact ⟨eqr, IsS108.at HI0, atB HB, atK HK⟩


end Go.Proofs.Ytaohgllnoomaeaa.Fn
namespace Go.Proofs.Ytaohgllnoomaeaa.Fn
open Go.RowKit Go.Proofs.YtaohgllnoomaeaaW.PrintWords Go.Proofs.YtaohgllnoomaeaaW.PrintLast Go.Proofs.YtaohgllnoomaeaaW.PrintMore
attribute [local go_sem] max2_int min2_int max_two min_two max_three min_three max_four min_four   -- for this text's walks alone
set_option linter.unusedVariables false
set_option linter.unusedSimpArgs false

/-! ### spec_l1Cur_surePairs: function 231 -/
mutual
def spec_l1Cur_surePairs.l0 : Nat → Int → List Int → Int → List Int → Int → Int → Option (List Int × Int × Int)
 | 0, _, _, _, _, _, _ => none
 | k + 1, x1, x5, x6, x1000, x1001, x1002 => if x6 > 0 then ((spec_l1Cur_pick.f x1000 x1001 x1002 8).bind fun bt426 => ((spec_l1Has.f k x5 (wrap64 (1 + bt426.1))).bind fun t429 => (if t429 = true then (spec_l1Cur_surePairs.j1 k x1 x5 x6 (wrap64 (1 + bt426.1)) true x1000 bt426.2.1 bt426.2.2) else (spec_l1Cur_surePairs.j1 k x1 x5 x6 (wrap64 (1 + bt426.1)) (decide ((x5.length : Int) < (wrap64 ((wrap64 ((wrap64 (1 + bt426.1)) + x1)) + 1)))) x1000 bt426.2.1 bt426.2.2)))) else (some (x5, x1001, x1002))
def spec_l1Cur_surePairs.j1 : Nat → Int → List Int → Int → Int → Bool → List Int → Int → Int → Option (List Int × Int × Int)
 | 0, _, _, _, _, _, _, _, _ => none
 | k + 1, x1, x5, x6, x7, x34, x1000, x1001, x1002 => if x34 = true then (spec_l1Cur_surePairs.l0 k x1 x5 (wrap64 (x6 - 1)) x1000 x1001 x1002) else ((spec_l1Cur_pick.f x1000 x1001 x1002 (wrap64 ((wrap64 ((x5.length : Int) - x7)) - x1))).bind fun bt430 => ((spec_l1Cur_one.f x1000 bt430.2.1 bt430.2.2 12).bind fun bt433 => (if bt433.1 = true then ((spec_l1Cur_pick.f x1000 bt433.2.1 bt433.2.2 (x5.length : Int)).bind fun bt436 => (if bt430.1 = bt436.1 then (spec_l1Cur_surePairs.l0 k x1 x5 (wrap64 (x6 - 1)) x1000 bt436.2.1 bt436.2.2) else (if 0 ≤ bt430.1 then (if bt430.1 < (x5.length : Int) then (if (rd x5 bt430.1) = 0 then (if 0 ≤ bt436.1 then (if bt436.1 < (x5.length : Int) then (if (rd x5 bt436.1) = 0 then (spec_l1Cur_surePairs.l0 k x1 ((x5.set (bt430.1 : Int).toNat x7).set (bt436.1 : Int).toNat x7) (wrap64 (x6 - 1)) x1000 bt436.2.1 bt436.2.2) else (spec_l1Cur_surePairs.l0 k x1 x5 (wrap64 (x6 - 1)) x1000 bt436.2.1 bt436.2.2)) else (none)) else (none)) else (spec_l1Cur_surePairs.l0 k x1 x5 (wrap64 (x6 - 1)) x1000 bt436.2.1 bt436.2.2)) else (none)) else (none)))) else (if bt430.1 = (wrap64 ((wrap64 (bt430.1 + x7)) + x1)) then (spec_l1Cur_surePairs.l0 k x1 x5 (wrap64 (x6 - 1)) x1000 bt433.2.1 bt433.2.2) else (if 0 ≤ bt430.1 then (if bt430.1 < (x5.length : Int) then (if (rd x5 bt430.1) = 0 then (if 0 ≤ (wrap64 ((wrap64 (bt430.1 + x7)) + x1)) then (if (wrap64 ((wrap64 (bt430.1 + x7)) + x1)) < (x5.length : Int) then (if (rd x5 (wrap64 ((wrap64 (bt430.1 + x7)) + x1))) = 0 then (spec_l1Cur_surePairs.l0 k x1 ((x5.set (bt430.1 : Int).toNat x7).set ((wrap64 ((wrap64 (bt430.1 + x7)) + x1)) : Int).toNat x7) (wrap64 (x6 - 1)) x1000 bt433.2.1 bt433.2.2) else (spec_l1Cur_surePairs.l0 k x1 x5 (wrap64 (x6 - 1)) x1000 bt433.2.1 bt433.2.2)) else (none)) else (none)) else (spec_l1Cur_surePairs.l0 k x1 x5 (wrap64 (x6 - 1)) x1000 bt433.2.1 bt433.2.2)) else (none)) else (none))))))
end
def spec_l1Cur_surePairs.f (k : Nat) (s0_0 : List Int) (s0_1 : Int) (s0_2 : Int) (a1 : Int) : Option (List Int × Int × Int) := (spec_l1Cur_pick.f s0_0 s0_1 s0_2 15).bind fun bt417 => (if 0 ≤ bt417.1 then (if (bt417.1 : Int).toNat ≤ 35184372088832 then ((spec_l1Cur_pick.f s0_0 bt417.2.1 bt417.2.2 6).bind fun bt423 => (spec_l1Cur_surePairs.l0 k a1 (List.replicate (bt417.1 : Int).toNat 0) (wrap64 (1 + bt423.1)) s0_0 bt423.2.1 bt423.2.2)) else (none)) else (none))
theorem spec_l1Cur_surePairs.mono_l : ∀ k, (∀ y0 y1 y2 y3 y4 y5, LeO (spec_l1Cur_surePairs.l0 k y0 y1 y2 y3 y4 y5) (spec_l1Cur_surePairs.l0 (k + 1) y0 y1 y2 y3 y4 y5)) ∧ (∀ y0 y1 y2 y3 y4 y5 y6 y7, LeO (spec_l1Cur_surePairs.j1 k y0 y1 y2 y3 y4 y5 y6 y7) (spec_l1Cur_surePairs.j1 (k + 1) y0 y1 y2 y3 y4 y5 y6 y7))
 | 0 => ⟨fun _ _ _ _ _ _ r h => by simp [spec_l1Cur_surePairs.l0] at h, fun _ _ _ _ _ _ _ _ r h => by simp [spec_l1Cur_surePairs.j1] at h⟩
 | k + 1 => by
  obtain ⟨ih0, ih1⟩ := spec_l1Cur_surePairs.mono_l k
  refine ⟨?_, ?_⟩
  ·intro y0 y1 y2 y3 y4 y5
   unfold spec_l1Cur_surePairs.l0
   repeat' (first | (with_reducible first | exact ih1 _ _ _ _ _ _ _ _ | exact spec_l1Has.mono _ _ _ | exact LeO.refl _ | exact LeO.none _ | refine LeO.ite ?_ ?_ | refine LeO.bind ?_ (fun _ => ?_)) | exact ih1 _ _ _ _ _ _ _ _ | exact spec_l1Has.mono _ _ _ | exact LeO.none _ | refine LeO.ite ?_ ?_ | refine LeO.bind ?_ (fun _ => ?_))
  ·intro y0 y1 y2 y3 y4 y5 y6 y7
   unfold spec_l1Cur_surePairs.j1
   repeat' (first | (with_reducible first | exact ih0 _ _ _ _ _ _ | exact LeO.refl _ | exact LeO.none _ | refine LeO.ite ?_ ?_ | refine LeO.bind ?_ (fun _ => ?_)) | exact ih0 _ _ _ _ _ _ | exact LeO.none _ | refine LeO.ite ?_ ?_ | refine LeO.bind ?_ (fun _ => ?_))
theorem spec_l1Cur_surePairs.mono : ∀ a0 a1 a2 a3 k, LeO (spec_l1Cur_surePairs.f k a0 a1 a2 a3) (spec_l1Cur_surePairs.f (k + 1) a0 a1 a2 a3) := by
 intro a0 a1 a2 a3 k
 obtain ⟨ih0, ih1⟩ := spec_l1Cur_surePairs.mono_l k
 unfold spec_l1Cur_surePairs.f
 repeat' (first | (with_reducible first | exact ih0 _ _ _ _ _ _ | exact LeO.refl _ | exact LeO.none _ | refine LeO.ite ?_ ?_ | refine LeO.bind ?_ (fun _ => ?_)) | exact ih0 _ _ _ _ _ _ | exact LeO.none _ | refine LeO.ite ?_ ?_ | refine LeO.bind ?_ (fun _ => ?_))
set_option maxHeartbeats 8000000 in
set_option maxRecDepth 100000 in
theorem spec_l1Cur_surePairs.calls (k : Nat) (g : Nat) (s0_0 : List Int) (s0_1 : Int) (s0_2 : Int) (a1 : Int) (r1 : List Int) (r2 : Int) (r3 : Int) (w0 w : World) (hI : IsS108 w0 w g s0_0 s0_1 s0_2) (hB : Below w0.heap.size w0 w) (h : spec_l1Cur_surePairs.f k s0_0 s0_1 s0_2 a1 = some (r1, r2, r3)) :
  Calls Try.prog 231 #[.pointer (some ⟨g, 0, none⟩), .int .i64 a1] w fun e w' => ∃ v0_ : Value, e = .returned (v0_) ∧ Kd.R (Kd.int .i64) 3 w' w.heap.size (fun _ => True) v0_ r1 ∧ IsS108 w0 w' g s0_0 r2 r3 ∧ Below w0.heap.size w0 w' ∧ KeepBut w w' g none := by
 have HI0 := Aside0.mk hI
 have HK := Aside0.mk (KeepBut.refl w g none)
 have HL := Aside0.mk hB.size
 clear hI
 have HW0 := Aside0.mk hB.size
 have HB := Aside0.mk hB
 clear hB
 have H := h
 unfold spec_l1Cur_surePairs.f at H
 clear h
 replace H := Option.bind_eq_some_iff.mp H
 obtain ⟨⟨t417, t418, t419⟩, A30, H⟩ := H
 replace H : (if 0 ≤ t417 then (if (t417 : Int).toNat ≤ 35184372088832 then ((spec_l1Cur_pick.f s0_0 t418 t419 6).bind fun bt423 => (spec_l1Cur_surePairs.l0 k a1 (List.replicate (t417 : Int).toNat 0) (wrap64 (1 + bt423.1)) s0_0 bt423.2.1 bt423.2.2)) else (none)) else (none)) = some (r1, r2, r3) := H
 have A3 := Aside0.mk A30
 clear A30
 by_cases c4 : 0 ≤ t417
 ·rw [if_pos c4] at H
  have c4b0 := eq_true c4
  have c4b1 : decide (0 ≤ t417) = true := decide_eq_true c4
  clear c4
  by_cases c5 : (t417 : Int).toNat ≤ 35184372088832
  ·rw [if_pos c5] at H
   have c5b0 := eq_true c5
   have c5b1 : decide ((t417 : Int).toNat ≤ 35184372088832) = true := decide_eq_true c5
   clear c5
   obtain ⟨y420, hy420⟩ : ∃ y_ : List Int, y_ = (List.replicate (t417 : Int).toNat 0) := ⟨_, rfl⟩
   replace H : ((spec_l1Cur_pick.f s0_0 t418 t419 6).bind fun bt423 => (spec_l1Cur_surePairs.l0 k a1 y420 (wrap64 (1 + bt423.1)) s0_0 bt423.2.1 bt423.2.2)) = some (r1, r2, r3) := by first | (rw [hy420]; with_reducible exact H) | (have H2_ := (Option.bind_some _ _).symm.trans H; rw [hy420]; with_reducible exact H2_) | (have H2_ := (Option.bind_some _ _).symm.trans H; with_reducible exact H2_) | with_reducible exact H | (rw [hy420]; exact H) | exact H
   have Ny420 := Aside0.mk hy420
   clear hy420
   replace H := Option.bind_eq_some_iff.mp H
   obtain ⟨⟨t423, t424, t425⟩, A60, H⟩ := H
   replace H : (spec_l1Cur_surePairs.l0 k a1 y420 (wrap64 (1 + t423)) s0_0 t424 t425) = some (r1, r2, r3) := H
   have A6 := Aside0.mk A60
   clear A60
   have H' := Aside0.mk H
   clear H
   go_enter Try.func231, Try.ntmps231
   go_wp2_with (first | ((with_reducible refine gate_callee (f := 171) rfl ?_); refine goesA (some 11) Try.func171 #[.pointer (some ⟨g, 0, none⟩), .int .i64 15] ?_; (with_reducible refine (spec_l1Cur_pick.calls g s0_0 s0_1 s0_2 15 t417 t418 t419 w0 _ ?side1 ?side2 A3.out).mono ?_); (case side1 => exact IsS108.at HI0); (case side2 => exact atB HB); rintro e w7 ⟨rfl, hi, hb, hk⟩; refine ⟨_, rfl, ?_⟩; replace HK := upK HK hk; replace HB := Aside0.mk (hb); replace HI0 := Aside0.mk (hi); (try clear hb); (try clear hb2); (try clear hk); (try clear hi)) | ((with_reducible refine gate_dst (N := 12) rfl ?_); (try (refine gate_guard (by rfl) ?_; dsimp only)); refine Kd.R_make (Kd.int .i64) _ 3 rfl (N := 12) rfl 31 _ _ rfl t417 rfl rfl Try.underlying31 (.int .i64 0) 8 info3 rfl (by decide) (by omega) 0 (ok := fun _ => True) (okp := fun _ => True) rfl (fun _ hk => hk) trivial (of_decide_eq_true (by first | (with_reducible assumption) | assumption)) (Nat.le_trans (Nat.mul_le_mul_right _ (of_decide_eq_true (by first | (with_reducible assumption) | assumption) : t417.toNat ≤ 35184372088832)) (by omega)) (Below.refl _ _) (Nat.le_refl _) ?_; intro v421 w8 ho9 hb hg_ hnew_; clear hg_ hnew_; (first | rw [← Ny420.out] at ho9 | (simp only [Int.reduceToNat] at ho9; rw [← Ny420.out] at ho9)); have HO422 := lowKR ho9 HK; replace HI0 := IsS108.up HI0 hb; replace HK := upKB HK hb; replace HB := upB HB hb; clear hb ho9) | ((with_reducible refine gate_callee (f := 171) rfl ?_); refine goesA (some 14) Try.func171 #[.pointer (some ⟨g, 0, none⟩), .int .i64 6] ?_; (with_reducible refine (spec_l1Cur_pick.calls g s0_0 t418 t419 6 t423 t424 t425 w0 _ ?side1 ?side2 A6.out).mono ?_); (case side1 => exact IsS108.at HI0); (case side2 => exact atB HB); rintro e w10 ⟨rfl, hi, hb, hk⟩; refine ⟨_, rfl, ?_⟩; replace HO422 := IsS108.keepR HI0 HO422 hk; replace HK := upK HK hk; replace HB := Aside0.mk (hb); replace HI0 := Aside0.mk (hi); (try clear hb); (try clear hb2); (try clear hk); (try clear hi)))
   go_loopg [6] k (fun kq v6 w' => ∃ (x5_1 : List Int) (x6_1 : Int) (x1001_1 : Int) (x1002_1 : Int), v6 = .int .i64 x6_1 ∧ Aside0 (spec_l1Cur_surePairs.l0 kq a1 x5_1 x6_1 s0_0 x1001_1 x1002_1 = some (r1, r2, r3)) ∧ Aside0 (kq ≤ k) ∧ Aside0 (Kd.R (Kd.int .i64) 3 w' w.heap.size (fun _ => True) v421 x5_1) ∧ Aside0 (IsS108 w0 w' g s0_0 x1001_1 x1002_1) ∧ Aside0 (KeepBut w w' g none) ∧ Aside0 (Below w0.heap.size w0 w'))
   case atStart => exact ⟨(y420), (wrap64 (1 + t423)), (t424), (t425), eqd, H', ⟨Nat.le_refl _⟩, ⟨atR HO422⟩, ⟨IsS108.at HI0⟩, ⟨atK HK⟩, ⟨atB HB⟩⟩
   case round =>
    clear H'
    try clear c1
    try clear c2
    try clear p2
    try clear c4
    try clear c4b0
    try clear c4b1
    try clear c5
    try clear c5b0
    try clear c5b1
    try clear p6
    obtain ⟨x5_1, x6_1, x1001_1, x1002_1, rfl, HA, HK1, HO_5, HI0, HK, HB⟩ := hrel
    cases gk with
    | zero => exact absurd HA.out (by simp [spec_l1Cur_surePairs.l0])
    | succ k1 =>
     have H := HA.out
     clear HA
     simp only [spec_l1Cur_surePairs.l0] at H
     by_cases c11 : x6_1 > 0
     ·rw [if_pos c11] at H
      have c11b0 : decide (0 < x6_1) = true := decide_eq_true c11
      clear c11
      replace H := Option.bind_eq_some_iff.mp H
      obtain ⟨⟨t426, t427, t428⟩, A120, H⟩ := H
      replace H : ((spec_l1Has.f k1 x5_1 (wrap64 (1 + t426))).bind fun t429 => (if t429 = true then (spec_l1Cur_surePairs.j1 k1 a1 x5_1 x6_1 (wrap64 (1 + t426)) true s0_0 t427 t428) else (spec_l1Cur_surePairs.j1 k1 a1 x5_1 x6_1 (wrap64 (1 + t426)) (decide ((x5_1.length : Int) < (wrap64 ((wrap64 ((wrap64 (1 + t426)) + a1)) + 1)))) s0_0 t427 t428))) = some (r1, r2, r3) := H
      have A12 := Aside0.mk A120
      clear A120
      have HC13 := Aside0.mk H
      clear H
      go_upto_region 6 with (first | ((with_reducible refine gate_callee (f := 171) rfl ?_); refine goesA (some 21) Try.func171 #[.pointer (some ⟨g, 0, none⟩), .int .i64 8] ?_; (with_reducible refine (spec_l1Cur_pick.calls g s0_0 x1001_1 x1002_1 8 t426 t427 t428 w0 _ ?side1 ?side2 A12.out).mono ?_); (case side1 => exact IsS108.at HI0); (case side2 => exact atB HB); rintro e w14 ⟨rfl, hi, hb, hk⟩; refine ⟨_, rfl, ?_⟩; replace HO_5 := IsS108.keepR HI0 HO_5 hk; replace HK := upK HK hk; replace HB := Aside0.mk (hb); replace HI0 := Aside0.mk (hi); (try clear hb); (try clear hb2); (try clear hk); (try clear hi)))
      (try simp only [Act.put, List.setIfInBounds_toArray, List.set_cons_zero, List.set_cons_succ])
      go_cut [34] (fun v34 wc => ∃ (kq : Nat) (x34_12 : Bool), v34 = .bool x34_12 ∧ Aside0 (spec_l1Cur_surePairs.j1 kq a1 x5_1 x6_1 (wrap64 (1 + t426)) x34_12 s0_0 t427 t428 = some (r1, r2, r3)) ∧ Aside0 (kq ≤ k1) ∧ Aside0 (Kd.R (Kd.int .i64) 3 wc w.heap.size (fun _ => True) v421 x5_1) ∧ Aside0 (IsS108 w0 wc g s0_0 t427 t428) ∧ Aside0 (KeepBut w wc g none) ∧ Aside0 (Below w0.heap.size w0 wc))
      case first =>
       have H := HC13.out
       clear HC13
       replace H := Option.bind_eq_some_iff.mp H
       obtain ⟨t429, A150, H⟩ := H
       replace H : (if t429 = true then (spec_l1Cur_surePairs.j1 k1 a1 x5_1 x6_1 (wrap64 (1 + t426)) true s0_0 t427 t428) else (spec_l1Cur_surePairs.j1 k1 a1 x5_1 x6_1 (wrap64 (1 + t426)) (decide ((x5_1.length : Int) < (wrap64 ((wrap64 ((wrap64 (1 + t426)) + a1)) + 1)))) s0_0 t427 t428)) = some (r1, r2, r3) := H
       have A15 := Aside0.mk A150
       clear A150
       by_cases c16 : t429 = true
       ·subst c16
        have H1 : (spec_l1Cur_surePairs.j1 k1 a1 x5_1 x6_1 (wrap64 (1 + t426)) true s0_0 t427 t428) = some (r1, r2, r3) := by rw [if_pos rfl] at H; exact H
        clear H
        have H := H1
        clear H1
        have H' := Aside0.mk H
        clear H
        obtain ⟨Ao17, co17, eo17⟩ := Kd.R_slice HO_5.out
        subst eo17
        go_wp2_with (first | ((with_reducible refine gate_callee (f := 195) rfl ?_); refine goesA (some 25) Try.func195 #[.slice Ao17 x5_1.length co17, .int .i64 (wrap64 (1 + t426))] ?_; (with_reducible refine (spec_l1Has.calls k1 _ _ x5_1 (wrap64 (1 + t426)) true _ ?side1 ?side2 A15.out).mono ?_); (case side1 => exact atRC HO_5); (case side2 => exact (Kd.R_reads' HO_5.out).2.1); rintro e w' ⟨rfl, ⟨nd, rfl⟩⟩; refine ⟨_, rfl, ?_⟩))
        go_meet
        case rel => exact ⟨_, (true), eqd, H', ⟨by have := HK1.out; first | omega | exact Nat.le_refl _⟩, ⟨atR HO_5⟩, ⟨IsS108.at HI0⟩, ⟨atK HK⟩, ⟨atB HB⟩⟩
       ·replace c16 := Bool.eq_false_iff.mpr c16
        subst c16
        have H1 : (spec_l1Cur_surePairs.j1 k1 a1 x5_1 x6_1 (wrap64 (1 + t426)) (decide ((x5_1.length : Int) < (wrap64 ((wrap64 ((wrap64 (1 + t426)) + a1)) + 1)))) s0_0 t427 t428) = some (r1, r2, r3) := by rw [if_neg (show ¬ (false = true) by decide)] at H; exact H
        clear H
        have H := H1
        clear H1
        have H' := Aside0.mk H
        clear H
        obtain ⟨Ao18, co18, eo18⟩ := Kd.R_slice HO_5.out
        subst eo18
        go_wp2_with (first | ((with_reducible refine gate_callee (f := 195) rfl ?_); refine goesA (some 25) Try.func195 #[.slice Ao18 x5_1.length co18, .int .i64 (wrap64 (1 + t426))] ?_; (with_reducible refine (spec_l1Has.calls k1 _ _ x5_1 (wrap64 (1 + t426)) false _ ?side1 ?side2 A15.out).mono ?_); (case side1 => exact atRC HO_5); (case side2 => exact (Kd.R_reads' HO_5.out).2.1); rintro e w' ⟨rfl, ⟨nd, rfl⟩⟩; refine ⟨_, rfl, ?_⟩))
        go_meet
        case rel => exact ⟨_, (decide ((x5_1.length : Int) < (wrap64 ((wrap64 ((wrap64 (1 + t426)) + a1)) + 1)))), eqd, H', ⟨by have := HK1.out; first | omega | exact Nat.le_refl _⟩, ⟨atR HO_5⟩, ⟨IsS108.at HI0⟩, ⟨atK HK⟩, ⟨atB HB⟩⟩
      case rest =>
       clear HC13
       try clear c1
       try clear c2
       try clear p2
       try clear c4
       try clear c4b0
       try clear c4b1
       try clear c5
       try clear c5b0
       try clear c5b1
       try clear p6
       try clear c11
       try clear c11b0
       try clear c16
       try clear c17
       try clear p2
       try clear p6
       obtain ⟨kq, x34_12, rfl, HA, HJ12, HO_5, HI0, HK, HB⟩ := hcut
       cases kq with
       | zero => exact absurd HA.out (by simp [spec_l1Cur_surePairs.j1])
       | succ kj12 =>
        have H := HA.out
        clear HA
        simp only [spec_l1Cur_surePairs.j1] at H
        by_cases c19 : x34_12 = true
        ·subst c19
         have H1 : (spec_l1Cur_surePairs.l0 kj12 a1 x5_1 (wrap64 (x6_1 - 1)) s0_0 t427 t428) = some (r1, r2, r3) := by rw [if_pos rfl] at H; exact H
         clear H
         have H := H1
         clear H1
         have H' := Aside0.mk H
         clear H
         go_wp2
         go_roundg kj12
         case measure => have := HK1.out; have := HJ12.out; omega
         case rel => exact ⟨(x5_1), (wrap64 (x6_1 - 1)), (t427), (t428), eqd, H', ⟨by have := HK1.out; have := HJ12.out; omega⟩, ⟨atR HO_5⟩, ⟨IsS108.at HI0⟩, ⟨atK HK⟩, ⟨atB HB⟩⟩
        ·replace c19 := Bool.eq_false_iff.mpr c19
         subst c19
         have H1 : ((spec_l1Cur_pick.f s0_0 t427 t428 (wrap64 ((wrap64 ((x5_1.length : Int) - (wrap64 (1 + t426)))) - a1))).bind fun bt430 => ((spec_l1Cur_one.f s0_0 bt430.2.1 bt430.2.2 12).bind fun bt433 => (if bt433.1 = true then ((spec_l1Cur_pick.f s0_0 bt433.2.1 bt433.2.2 (x5_1.length : Int)).bind fun bt436 => (if bt430.1 = bt436.1 then (spec_l1Cur_surePairs.l0 kj12 a1 x5_1 (wrap64 (x6_1 - 1)) s0_0 bt436.2.1 bt436.2.2) else (if 0 ≤ bt430.1 then (if bt430.1 < (x5_1.length : Int) then (if (rd x5_1 bt430.1) = 0 then (if 0 ≤ bt436.1 then (if bt436.1 < (x5_1.length : Int) then (if (rd x5_1 bt436.1) = 0 then (spec_l1Cur_surePairs.l0 kj12 a1 ((x5_1.set (bt430.1 : Int).toNat (wrap64 (1 + t426))).set (bt436.1 : Int).toNat (wrap64 (1 + t426))) (wrap64 (x6_1 - 1)) s0_0 bt436.2.1 bt436.2.2) else (spec_l1Cur_surePairs.l0 kj12 a1 x5_1 (wrap64 (x6_1 - 1)) s0_0 bt436.2.1 bt436.2.2)) else (none)) else (none)) else (spec_l1Cur_surePairs.l0 kj12 a1 x5_1 (wrap64 (x6_1 - 1)) s0_0 bt436.2.1 bt436.2.2)) else (none)) else (none)))) else (if bt430.1 = (wrap64 ((wrap64 (bt430.1 + (wrap64 (1 + t426)))) + a1)) then (spec_l1Cur_surePairs.l0 kj12 a1 x5_1 (wrap64 (x6_1 - 1)) s0_0 bt433.2.1 bt433.2.2) else (if 0 ≤ bt430.1 then (if bt430.1 < (x5_1.length : Int) then (if (rd x5_1 bt430.1) = 0 then (if 0 ≤ (wrap64 ((wrap64 (bt430.1 + (wrap64 (1 + t426)))) + a1)) then (if (wrap64 ((wrap64 (bt430.1 + (wrap64 (1 + t426)))) + a1)) < (x5_1.length : Int) then (if (rd x5_1 (wrap64 ((wrap64 (bt430.1 + (wrap64 (1 + t426)))) + a1))) = 0 then (spec_l1Cur_surePairs.l0 kj12 a1 ((x5_1.set (bt430.1 : Int).toNat (wrap64 (1 + t426))).set ((wrap64 ((wrap64 (bt430.1 + (wrap64 (1 + t426)))) + a1)) : Int).toNat (wrap64 (1 + t426))) (wrap64 (x6_1 - 1)) s0_0 bt433.2.1 bt433.2.2) else (spec_l1Cur_surePairs.l0 kj12 a1 x5_1 (wrap64 (x6_1 - 1)) s0_0 bt433.2.1 bt433.2.2)) else (none)) else (none)) else (spec_l1Cur_surePairs.l0 kj12 a1 x5_1 (wrap64 (x6_1 - 1)) s0_0 bt433.2.1 bt433.2.2)) else (none)) else (none)))))) = some (r1, r2, r3) := by rw [if_neg (show ¬ (false = true) by decide)] at H; exact H
         clear H
         have H := H1
         clear H1
         replace H := Option.bind_eq_some_iff.mp H
         obtain ⟨⟨t430, t431, t432⟩, A200, H⟩ := H
         replace H : ((spec_l1Cur_one.f s0_0 t431 t432 12).bind fun bt433 => (if bt433.1 = true then ((spec_l1Cur_pick.f s0_0 bt433.2.1 bt433.2.2 (x5_1.length : Int)).bind fun bt436 => (if t430 = bt436.1 then (spec_l1Cur_surePairs.l0 kj12 a1 x5_1 (wrap64 (x6_1 - 1)) s0_0 bt436.2.1 bt436.2.2) else (if 0 ≤ t430 then (if t430 < (x5_1.length : Int) then (if (rd x5_1 t430) = 0 then (if 0 ≤ bt436.1 then (if bt436.1 < (x5_1.length : Int) then (if (rd x5_1 bt436.1) = 0 then (spec_l1Cur_surePairs.l0 kj12 a1 ((x5_1.set (t430 : Int).toNat (wrap64 (1 + t426))).set (bt436.1 : Int).toNat (wrap64 (1 + t426))) (wrap64 (x6_1 - 1)) s0_0 bt436.2.1 bt436.2.2) else (spec_l1Cur_surePairs.l0 kj12 a1 x5_1 (wrap64 (x6_1 - 1)) s0_0 bt436.2.1 bt436.2.2)) else (none)) else (none)) else (spec_l1Cur_surePairs.l0 kj12 a1 x5_1 (wrap64 (x6_1 - 1)) s0_0 bt436.2.1 bt436.2.2)) else (none)) else (none)))) else (if t430 = (wrap64 ((wrap64 (t430 + (wrap64 (1 + t426)))) + a1)) then (spec_l1Cur_surePairs.l0 kj12 a1 x5_1 (wrap64 (x6_1 - 1)) s0_0 bt433.2.1 bt433.2.2) else (if 0 ≤ t430 then (if t430 < (x5_1.length : Int) then (if (rd x5_1 t430) = 0 then (if 0 ≤ (wrap64 ((wrap64 (t430 + (wrap64 (1 + t426)))) + a1)) then (if (wrap64 ((wrap64 (t430 + (wrap64 (1 + t426)))) + a1)) < (x5_1.length : Int) then (if (rd x5_1 (wrap64 ((wrap64 (t430 + (wrap64 (1 + t426)))) + a1))) = 0 then (spec_l1Cur_surePairs.l0 kj12 a1 ((x5_1.set (t430 : Int).toNat (wrap64 (1 + t426))).set ((wrap64 ((wrap64 (t430 + (wrap64 (1 + t426)))) + a1)) : Int).toNat (wrap64 (1 + t426))) (wrap64 (x6_1 - 1)) s0_0 bt433.2.1 bt433.2.2) else (spec_l1Cur_surePairs.l0 kj12 a1 x5_1 (wrap64 (x6_1 - 1)) s0_0 bt433.2.1 bt433.2.2)) else (none)) else (none)) else (spec_l1Cur_surePairs.l0 kj12 a1 x5_1 (wrap64 (x6_1 - 1)) s0_0 bt433.2.1 bt433.2.2)) else (none)) else (none))))) = some (r1, r2, r3) := H
         have A20 := Aside0.mk A200
         clear A200
         replace H := Option.bind_eq_some_iff.mp H
         obtain ⟨⟨t433, t434, t435⟩, A210, H⟩ := H
         replace H : (if t433 = true then ((spec_l1Cur_pick.f s0_0 t434 t435 (x5_1.length : Int)).bind fun bt436 => (if t430 = bt436.1 then (spec_l1Cur_surePairs.l0 kj12 a1 x5_1 (wrap64 (x6_1 - 1)) s0_0 bt436.2.1 bt436.2.2) else (if 0 ≤ t430 then (if t430 < (x5_1.length : Int) then (if (rd x5_1 t430) = 0 then (if 0 ≤ bt436.1 then (if bt436.1 < (x5_1.length : Int) then (if (rd x5_1 bt436.1) = 0 then (spec_l1Cur_surePairs.l0 kj12 a1 ((x5_1.set (t430 : Int).toNat (wrap64 (1 + t426))).set (bt436.1 : Int).toNat (wrap64 (1 + t426))) (wrap64 (x6_1 - 1)) s0_0 bt436.2.1 bt436.2.2) else (spec_l1Cur_surePairs.l0 kj12 a1 x5_1 (wrap64 (x6_1 - 1)) s0_0 bt436.2.1 bt436.2.2)) else (none)) else (none)) else (spec_l1Cur_surePairs.l0 kj12 a1 x5_1 (wrap64 (x6_1 - 1)) s0_0 bt436.2.1 bt436.2.2)) else (none)) else (none)))) else (if t430 = (wrap64 ((wrap64 (t430 + (wrap64 (1 + t426)))) + a1)) then (spec_l1Cur_surePairs.l0 kj12 a1 x5_1 (wrap64 (x6_1 - 1)) s0_0 t434 t435) else (if 0 ≤ t430 then (if t430 < (x5_1.length : Int) then (if (rd x5_1 t430) = 0 then (if 0 ≤ (wrap64 ((wrap64 (t430 + (wrap64 (1 + t426)))) + a1)) then (if (wrap64 ((wrap64 (t430 + (wrap64 (1 + t426)))) + a1)) < (x5_1.length : Int) then (if (rd x5_1 (wrap64 ((wrap64 (t430 + (wrap64 (1 + t426)))) + a1))) = 0 then (spec_l1Cur_surePairs.l0 kj12 a1 ((x5_1.set (t430 : Int).toNat (wrap64 (1 + t426))).set ((wrap64 ((wrap64 (t430 + (wrap64 (1 + t426)))) + a1)) : Int).toNat (wrap64 (1 + t426))) (wrap64 (x6_1 - 1)) s0_0 t434 t435) else (spec_l1Cur_surePairs.l0 kj12 a1 x5_1 (wrap64 (x6_1 - 1)) s0_0 t434 t435)) else (none)) else (none)) else (spec_l1Cur_surePairs.l0 kj12 a1 x5_1 (wrap64 (x6_1 - 1)) s0_0 t434 t435)) else (none)) else (none)))) = some (r1, r2, r3) := H
         have A21 := Aside0.mk A210
         clear A210
         by_cases c22 : t433 = true
         ·subst c22
          have H1 : ((spec_l1Cur_pick.f s0_0 t434 t435 (x5_1.length : Int)).bind fun bt436 => (if t430 = bt436.1 then (spec_l1Cur_surePairs.l0 kj12 a1 x5_1 (wrap64 (x6_1 - 1)) s0_0 bt436.2.1 bt436.2.2) else (if 0 ≤ t430 then (if t430 < (x5_1.length : Int) then (if (rd x5_1 t430) = 0 then (if 0 ≤ bt436.1 then (if bt436.1 < (x5_1.length : Int) then (if (rd x5_1 bt436.1) = 0 then (spec_l1Cur_surePairs.l0 kj12 a1 ((x5_1.set (t430 : Int).toNat (wrap64 (1 + t426))).set (bt436.1 : Int).toNat (wrap64 (1 + t426))) (wrap64 (x6_1 - 1)) s0_0 bt436.2.1 bt436.2.2) else (spec_l1Cur_surePairs.l0 kj12 a1 x5_1 (wrap64 (x6_1 - 1)) s0_0 bt436.2.1 bt436.2.2)) else (none)) else (none)) else (spec_l1Cur_surePairs.l0 kj12 a1 x5_1 (wrap64 (x6_1 - 1)) s0_0 bt436.2.1 bt436.2.2)) else (none)) else (none)))) = some (r1, r2, r3) := by rw [if_pos rfl] at H; exact H
          clear H
          have H := H1
          clear H1
          replace H := Option.bind_eq_some_iff.mp H
          obtain ⟨⟨t436, t437, t438⟩, A230, H⟩ := H
          replace H : (if t430 = t436 then (spec_l1Cur_surePairs.l0 kj12 a1 x5_1 (wrap64 (x6_1 - 1)) s0_0 t437 t438) else (if 0 ≤ t430 then (if t430 < (x5_1.length : Int) then (if (rd x5_1 t430) = 0 then (if 0 ≤ t436 then (if t436 < (x5_1.length : Int) then (if (rd x5_1 t436) = 0 then (spec_l1Cur_surePairs.l0 kj12 a1 ((x5_1.set (t430 : Int).toNat (wrap64 (1 + t426))).set (t436 : Int).toNat (wrap64 (1 + t426))) (wrap64 (x6_1 - 1)) s0_0 t437 t438) else (spec_l1Cur_surePairs.l0 kj12 a1 x5_1 (wrap64 (x6_1 - 1)) s0_0 t437 t438)) else (none)) else (none)) else (spec_l1Cur_surePairs.l0 kj12 a1 x5_1 (wrap64 (x6_1 - 1)) s0_0 t437 t438)) else (none)) else (none))) = some (r1, r2, r3) := H
          have A23 := Aside0.mk A230
          clear A230
          by_cases c24 : t430 = t436
          ·rw [if_pos c24] at H
           have c24b0 : (t430 == t436) = true := beq_iff_eq.mpr c24
           have c24b1 : (t430 != t436) = false := bne_eq_false_iff_eq.mpr c24
           clear c24
           have H' := Aside0.mk H
           clear H
           obtain ⟨Ao25, co25, eo25⟩ := Kd.R_slice HO_5.out
           subst eo25
           go_wp2_with (first | ((with_reducible refine gate_callee (f := 171) rfl ?_); refine goesA (some 42) Try.func171 #[.pointer (some ⟨g, 0, none⟩), .int .i64 (wrap64 ((wrap64 ((x5_1.length : Int) - (wrap64 (1 + t426)))) - a1))] ?_; (with_reducible refine (spec_l1Cur_pick.calls g s0_0 t427 t428 (wrap64 ((wrap64 ((x5_1.length : Int) - (wrap64 (1 + t426)))) - a1)) t430 t431 t432 w0 _ ?side1 ?side2 A20.out).mono ?_); (case side1 => exact IsS108.at HI0); (case side2 => exact atB HB); rintro e w26 ⟨rfl, hi, hb, hk⟩; refine ⟨_, rfl, ?_⟩; replace HO_5 := IsS108.keepR HI0 HO_5 hk; replace HK := upK HK hk; replace HB := Aside0.mk (hb); replace HI0 := Aside0.mk (hi); (try clear hb); (try clear hb2); (try clear hk); (try clear hi)) | ((with_reducible refine gate_callee (f := 170) rfl ?_); refine goesA (some 49) Try.func170 #[.pointer (some ⟨g, 0, none⟩), .int .i64 12] ?_; (with_reducible refine (spec_l1Cur_one.calls g s0_0 t431 t432 12 true t434 t435 w0 _ ?side1 ?side2 A21.out).mono ?_); (case side1 => exact IsS108.at HI0); (case side2 => exact atB HB); rintro e w27 ⟨rfl, hi, hb, hk⟩; refine ⟨_, rfl, ?_⟩; replace HO_5 := IsS108.keepR HI0 HO_5 hk; replace HK := upK HK hk; replace HB := Aside0.mk (hb); replace HI0 := Aside0.mk (hi); (try clear hb); (try clear hb2); (try clear hk); (try clear hi)) | ((with_reducible refine gate_callee (f := 171) rfl ?_); refine goesA (some 53) Try.func171 #[.pointer (some ⟨g, 0, none⟩), .int .i64 (x5_1.length : Int)] ?_; (with_reducible refine (spec_l1Cur_pick.calls g s0_0 t434 t435 (x5_1.length : Int) t436 t437 t438 w0 _ ?side1 ?side2 A23.out).mono ?_); (case side1 => exact IsS108.at HI0); (case side2 => exact atB HB); rintro e w28 ⟨rfl, hi, hb, hk⟩; refine ⟨_, rfl, ?_⟩; replace HO_5 := IsS108.keepR HI0 HO_5 hk; replace HK := upK HK hk; replace HB := Aside0.mk (hb); replace HI0 := Aside0.mk (hi); (try clear hb); (try clear hb2); (try clear hk); (try clear hi)))
           go_roundg kj12
           case measure => have := HK1.out; have := HJ12.out; omega
           case rel => exact ⟨(x5_1), (wrap64 (x6_1 - 1)), (t437), (t438), eqd, H', ⟨by have := HK1.out; have := HJ12.out; omega⟩, ⟨atR HO_5⟩, ⟨IsS108.at HI0⟩, ⟨atK HK⟩, ⟨atB HB⟩⟩
          ·rw [if_neg c24] at H
           have c24b0 : (t430 == t436) = false := beq_eq_false_iff_ne.mpr c24
           have c24b1 : (t430 != t436) = true := bne_iff_ne.mpr c24
           by_cases c29 : 0 ≤ t430
           ·rw [if_pos c29] at H
            have c29b0 : decide (0 ≤ t430) = true := decide_eq_true c29
            clear c29
            by_cases c30 : t430 < (x5_1.length : Int)
            ·rw [if_pos c30] at H
             have c30b0 : decide (t430 < (x5_1.length : Int)) = true := decide_eq_true c30
             clear c30
             by_cases c31 : (rd x5_1 t430) = 0
             ·rw [if_pos c31] at H
              have c31b0 : ((rd x5_1 t430) == 0) = true := beq_iff_eq.mpr c31
              have c31b1 : ((rd x5_1 t430) != 0) = false := bne_eq_false_iff_eq.mpr c31
              clear c31
              by_cases c32 : 0 ≤ t436
              ·rw [if_pos c32] at H
               have c32b0 : decide (0 ≤ t436) = true := decide_eq_true c32
               clear c32
               by_cases c33 : t436 < (x5_1.length : Int)
               ·rw [if_pos c33] at H
                have c33b0 : decide (t436 < (x5_1.length : Int)) = true := decide_eq_true c33
                clear c33
                by_cases c34 : (rd x5_1 t436) = 0
                ·rw [if_pos c34] at H
                 have c34b0 : ((rd x5_1 t436) == 0) = true := beq_iff_eq.mpr c34
                 have c34b1 : ((rd x5_1 t436) != 0) = false := bne_eq_false_iff_eq.mpr c34
                 clear c34
                 obtain ⟨y441, hy441⟩ : ∃ y_ : List Int, y_ = (x5_1.set (t430 : Int).toNat (wrap64 (1 + t426))) := ⟨_, rfl⟩
                 replace H : (spec_l1Cur_surePairs.l0 kj12 a1 (y441.set (t436 : Int).toNat (wrap64 (1 + t426))) (wrap64 (x6_1 - 1)) s0_0 t437 t438) = some (r1, r2, r3) := by first | (rw [hy441]; with_reducible exact H) | (have H2_ := (Option.bind_some _ _).symm.trans H; rw [hy441]; with_reducible exact H2_) | (have H2_ := (Option.bind_some _ _).symm.trans H; with_reducible exact H2_) | with_reducible exact H | (rw [hy441]; exact H) | exact H
                 have Ny441 := Aside0.mk hy441
                 clear hy441
                 obtain ⟨y442, hy442⟩ : ∃ y_ : List Int, y_ = (y441.set (t436 : Int).toNat (wrap64 (1 + t426))) := ⟨_, rfl⟩
                 replace H : (spec_l1Cur_surePairs.l0 kj12 a1 y442 (wrap64 (x6_1 - 1)) s0_0 t437 t438) = some (r1, r2, r3) := by first | (rw [hy442]; with_reducible exact H) | (have H2_ := (Option.bind_some _ _).symm.trans H; rw [hy442]; with_reducible exact H2_) | (have H2_ := (Option.bind_some _ _).symm.trans H; with_reducible exact H2_) | with_reducible exact H | (rw [hy442]; exact H) | exact H
                 have Ny442 := Aside0.mk hy442
                 clear hy442
                 have H' := Aside0.mk H
                 clear H
                 obtain ⟨Ao37, co37, eo37⟩ := Kd.R_slice HO_5.out
                 subst eo37
                 go_wp2_with (first | ((with_reducible refine gate_callee (f := 171) rfl ?_); refine goesA (some 42) Try.func171 #[.pointer (some ⟨g, 0, none⟩), .int .i64 (wrap64 ((wrap64 ((x5_1.length : Int) - (wrap64 (1 + t426)))) - a1))] ?_; (with_reducible refine (spec_l1Cur_pick.calls g s0_0 t427 t428 (wrap64 ((wrap64 ((x5_1.length : Int) - (wrap64 (1 + t426)))) - a1)) t430 t431 t432 w0 _ ?side1 ?side2 A20.out).mono ?_); (case side1 => exact IsS108.at HI0); (case side2 => exact atB HB); rintro e w38 ⟨rfl, hi, hb, hk⟩; refine ⟨_, rfl, ?_⟩; replace HO_5 := IsS108.keepR HI0 HO_5 hk; replace HK := upK HK hk; replace HB := Aside0.mk (hb); replace HI0 := Aside0.mk (hi); (try clear hb); (try clear hb2); (try clear hk); (try clear hi)) | ((with_reducible refine gate_callee (f := 170) rfl ?_); refine goesA (some 49) Try.func170 #[.pointer (some ⟨g, 0, none⟩), .int .i64 12] ?_; (with_reducible refine (spec_l1Cur_one.calls g s0_0 t431 t432 12 true t434 t435 w0 _ ?side1 ?side2 A21.out).mono ?_); (case side1 => exact IsS108.at HI0); (case side2 => exact atB HB); rintro e w39 ⟨rfl, hi, hb, hk⟩; refine ⟨_, rfl, ?_⟩; replace HO_5 := IsS108.keepR HI0 HO_5 hk; replace HK := upK HK hk; replace HB := Aside0.mk (hb); replace HI0 := Aside0.mk (hi); (try clear hb); (try clear hb2); (try clear hk); (try clear hi)) | ((with_reducible refine gate_callee (f := 171) rfl ?_); refine goesA (some 53) Try.func171 #[.pointer (some ⟨g, 0, none⟩), .int .i64 (x5_1.length : Int)] ?_; (with_reducible refine (spec_l1Cur_pick.calls g s0_0 t434 t435 (x5_1.length : Int) t436 t437 t438 w0 _ ?side1 ?side2 A23.out).mono ?_); (case side1 => exact IsS108.at HI0); (case side2 => exact atB HB); rintro e w40 ⟨rfl, hi, hb, hk⟩; refine ⟨_, rfl, ?_⟩; replace HO_5 := IsS108.keepR HI0 HO_5 hk; replace HK := upK HK hk; replace HB := Aside0.mk (hb); replace HI0 := Aside0.mk (hi); (try clear hb); (try clear hb2); (try clear hk); (try clear hi); have p439 : 0 ≤ (t430 : Int) := ofd; have q439 : t430 < (x5_1.length : Int) := ofd; obtain ⟨ad439, e439, hx439_0⟩ := Kd.at_int (Kd.R_reads' HO_5.out).2.2 t430 p439 q439; cases e439; replace p439 := eq_true p439; replace q439 := eq_true q439; have p440 : 0 ≤ (t436 : Int) := ofd; have q440 : t436 < (x5_1.length : Int) := ofd; obtain ⟨ad440, e440, hx440_0⟩ := Kd.at_int (Kd.R_reads' HO_5.out).2.2 t436 p440 q440; obtain rfl : ad439 = ad440 := (by injection e440); replace p440 := eq_true p440; replace q440 := eq_true q440; have p35 : 0 ≤ (t430 : Int) := ofd; have q35 : (t430 : Int) < ((x5_1.length : Int) : Int) := ofd; obtain ⟨go35, co35, eo35, gb35, gl35, cl35, HG35⟩ := Kd.R_form HO_5.out (by omega); (first | cases eo35 | (injection eo35 with ea_ en_ ec_; (first | subst ea_ | (injection ea_ with ea_; subst ea_)); subst ec_; clear en_)); have GB35 := Aside0.mk gb35; have GG35 := Aside0.mk HG35; clear gb35 gl35 HG35; (first | simp only [add_plain] at hx439_0 | skip); (first | simp only [add_plain] at hx440_0 | skip); obtain ⟨hx35_0, hf35_0⟩ := Kd.R_celln 0 HO_5.out (t430 : Int) p35 q35; replace p35 := eq_true p35; replace q35 := eq_true q35; obtain ⟨hy41_, hz41_⟩ := Kd.R_celln 0 HO_5.out (t430 : Int) (of_decide_eq_true (by first | (with_reducible assumption) | assumption)) (of_decide_eq_true (by first | (with_reducible assumption) | assumption)); have HP41 := Kd.R_putg HO_5.out (t430 : Int) (wrap64 (1 + t426))) | ((with_reducible refine gate_store (t := 3) (p := 74) rfl ?_); refine store_event (t := 3) (p := 74) (v := ?vo_w42) (w1 := (w40.setCell ⟨go35, (t430 : Int).toNat, none⟩ (.int .i64 (wrap64 (1 + t426))))) ?hg ?ho ?hn ?hr ?_; (case ho => rfl); (case hg => rfl); (case hn => rfl); (case hr => first | (go_simp; done) | (go_simp; rfl)); intro w42 hw; have hg : w40.grownBy w42 (some go35) := (by rw [hw]; exact HP41.2); have hp_ : Kd.R (Kd.int .i64) 3 w42 w.heap.size (fun _ => True) (.slice (some ⟨go35, 0, none⟩) x5_1.length co37) y441 := (by rw [hw, Ny441.out]; exact HP41.1); clear HP41; replace HI0 := Aside0.mk (IsS108.grown (IsS108.at HI0) hg (IsS108.own_ne HI0.out HO_5.out (by decide))); replace HB := Aside0.mk ((by rw [hw]; exact below_set (HB.out) (Nat.le_trans HL.out GB35.out) : Below w0.heap.size w0 w42)); replace HK := Aside0.mk (KeepBut.trans (atK HK) (KeepBut.of_grown hg g) (Kd.R_base2 HO_5.out)); replace HO_5 := Aside0.mk (hp_); clear hg hw hp_; have p36 : 0 ≤ (t436 : Int) := ofd; have q36 : (t436 : Int) < ((x5_1.length : Int) : Int) := ofd; obtain ⟨hx36_0, hf36_0⟩ := Kd.R_celln 0 HO_5.out (t436 : Int) p36 q36; replace p36 := eq_true p36; replace q36 := eq_true q36; obtain ⟨hy43_, hz43_⟩ := Kd.R_celln 0 HO_5.out (t436 : Int) (of_decide_eq_true (by first | (with_reducible assumption) | assumption)) (of_decide_eq_true (by first | (with_reducible assumption) | assumption)); have HP43 := Kd.R_putg HO_5.out (t436 : Int) (wrap64 (1 + t426))) | ((with_reducible refine gate_store (t := 3) (p := 78) rfl ?_); refine store_event (t := 3) (p := 78) (v := ?vo_w44) (w1 := (w42.setCell ⟨go35, (t436 : Int).toNat, none⟩ (.int .i64 (wrap64 (1 + t426))))) ?hg ?ho ?hn ?hr ?_; (case ho => rfl); (case hg => rfl); (case hn => rfl); (case hr => first | (go_simp; done) | (go_simp; rfl)); intro w44 hw; have hg : w42.grownBy w44 (some go35) := (by rw [hw]; exact HP43.2); have hp_ : Kd.R (Kd.int .i64) 3 w44 w.heap.size (fun _ => True) (.slice (some ⟨go35, 0, none⟩) x5_1.length co37) y442 := (by rw [hw, Ny442.out]; exact HP43.1); clear HP43; replace HI0 := Aside0.mk (IsS108.grown (IsS108.at HI0) hg (IsS108.own_ne HI0.out HO_5.out (by decide))); replace HB := Aside0.mk ((by rw [hw]; exact below_set (HB.out) (Nat.le_trans HL.out GB35.out) : Below w0.heap.size w0 w44)); replace HK := Aside0.mk (KeepBut.trans (atK HK) (KeepBut.of_grown hg g) (Kd.R_base2 HO_5.out)); replace HO_5 := Aside0.mk (hp_); clear hg hw hp_))
                 go_roundg kj12
                 case measure => have := HK1.out; have := HJ12.out; omega
                 case rel => exact ⟨(y442), (wrap64 (x6_1 - 1)), (t437), (t438), eqd, H', ⟨by have := HK1.out; have := HJ12.out; omega⟩, ⟨atR HO_5⟩, ⟨IsS108.at HI0⟩, ⟨atK HK⟩, ⟨atB HB⟩⟩
                ·rw [if_neg c34] at H
                 have c34b0 : ((rd x5_1 t436) == 0) = false := beq_eq_false_iff_ne.mpr c34
                 have c34b1 : ((rd x5_1 t436) != 0) = true := bne_iff_ne.mpr c34
                 have H' := Aside0.mk H
                 clear H
                 obtain ⟨Ao45, co45, eo45⟩ := Kd.R_slice HO_5.out
                 subst eo45
                 go_wp2_with (first | ((with_reducible refine gate_callee (f := 171) rfl ?_); refine goesA (some 42) Try.func171 #[.pointer (some ⟨g, 0, none⟩), .int .i64 (wrap64 ((wrap64 ((x5_1.length : Int) - (wrap64 (1 + t426)))) - a1))] ?_; (with_reducible refine (spec_l1Cur_pick.calls g s0_0 t427 t428 (wrap64 ((wrap64 ((x5_1.length : Int) - (wrap64 (1 + t426)))) - a1)) t430 t431 t432 w0 _ ?side1 ?side2 A20.out).mono ?_); (case side1 => exact IsS108.at HI0); (case side2 => exact atB HB); rintro e w46 ⟨rfl, hi, hb, hk⟩; refine ⟨_, rfl, ?_⟩; replace HO_5 := IsS108.keepR HI0 HO_5 hk; replace HK := upK HK hk; replace HB := Aside0.mk (hb); replace HI0 := Aside0.mk (hi); (try clear hb); (try clear hb2); (try clear hk); (try clear hi)) | ((with_reducible refine gate_callee (f := 170) rfl ?_); refine goesA (some 49) Try.func170 #[.pointer (some ⟨g, 0, none⟩), .int .i64 12] ?_; (with_reducible refine (spec_l1Cur_one.calls g s0_0 t431 t432 12 true t434 t435 w0 _ ?side1 ?side2 A21.out).mono ?_); (case side1 => exact IsS108.at HI0); (case side2 => exact atB HB); rintro e w47 ⟨rfl, hi, hb, hk⟩; refine ⟨_, rfl, ?_⟩; replace HO_5 := IsS108.keepR HI0 HO_5 hk; replace HK := upK HK hk; replace HB := Aside0.mk (hb); replace HI0 := Aside0.mk (hi); (try clear hb); (try clear hb2); (try clear hk); (try clear hi)) | ((with_reducible refine gate_callee (f := 171) rfl ?_); refine goesA (some 53) Try.func171 #[.pointer (some ⟨g, 0, none⟩), .int .i64 (x5_1.length : Int)] ?_; (with_reducible refine (spec_l1Cur_pick.calls g s0_0 t434 t435 (x5_1.length : Int) t436 t437 t438 w0 _ ?side1 ?side2 A23.out).mono ?_); (case side1 => exact IsS108.at HI0); (case side2 => exact atB HB); rintro e w48 ⟨rfl, hi, hb, hk⟩; refine ⟨_, rfl, ?_⟩; replace HO_5 := IsS108.keepR HI0 HO_5 hk; replace HK := upK HK hk; replace HB := Aside0.mk (hb); replace HI0 := Aside0.mk (hi); (try clear hb); (try clear hb2); (try clear hk); (try clear hi); have p439 : 0 ≤ (t430 : Int) := ofd; have q439 : t430 < (x5_1.length : Int) := ofd; obtain ⟨ad439, e439, hx439_0⟩ := Kd.at_int (Kd.R_reads' HO_5.out).2.2 t430 p439 q439; cases e439; replace p439 := eq_true p439; replace q439 := eq_true q439; have p440 : 0 ≤ (t436 : Int) := ofd; have q440 : t436 < (x5_1.length : Int) := ofd; obtain ⟨ad440, e440, hx440_0⟩ := Kd.at_int (Kd.R_reads' HO_5.out).2.2 t436 p440 q440; obtain rfl : ad439 = ad440 := (by injection e440); replace p440 := eq_true p440; replace q440 := eq_true q440))
                 go_roundg kj12
                 case measure => have := HK1.out; have := HJ12.out; omega
                 case rel => exact ⟨(x5_1), (wrap64 (x6_1 - 1)), (t437), (t438), eqd, H', ⟨by have := HK1.out; have := HJ12.out; omega⟩, ⟨atR HO_5⟩, ⟨IsS108.at HI0⟩, ⟨atK HK⟩, ⟨atB HB⟩⟩
               ·rw [if_neg c33] at H
                exact absurd H (by simp)
              ·rw [if_neg c32] at H
               exact absurd H (by simp)
             ·rw [if_neg c31] at H
              have c31b0 : ((rd x5_1 t430) == 0) = false := beq_eq_false_iff_ne.mpr c31
              have c31b1 : ((rd x5_1 t430) != 0) = true := bne_iff_ne.mpr c31
              have H' := Aside0.mk H
              clear H
              obtain ⟨Ao49, co49, eo49⟩ := Kd.R_slice HO_5.out
              subst eo49
              go_wp2_with (first | ((with_reducible refine gate_callee (f := 171) rfl ?_); refine goesA (some 42) Try.func171 #[.pointer (some ⟨g, 0, none⟩), .int .i64 (wrap64 ((wrap64 ((x5_1.length : Int) - (wrap64 (1 + t426)))) - a1))] ?_; (with_reducible refine (spec_l1Cur_pick.calls g s0_0 t427 t428 (wrap64 ((wrap64 ((x5_1.length : Int) - (wrap64 (1 + t426)))) - a1)) t430 t431 t432 w0 _ ?side1 ?side2 A20.out).mono ?_); (case side1 => exact IsS108.at HI0); (case side2 => exact atB HB); rintro e w50 ⟨rfl, hi, hb, hk⟩; refine ⟨_, rfl, ?_⟩; replace HO_5 := IsS108.keepR HI0 HO_5 hk; replace HK := upK HK hk; replace HB := Aside0.mk (hb); replace HI0 := Aside0.mk (hi); (try clear hb); (try clear hb2); (try clear hk); (try clear hi)) | ((with_reducible refine gate_callee (f := 170) rfl ?_); refine goesA (some 49) Try.func170 #[.pointer (some ⟨g, 0, none⟩), .int .i64 12] ?_; (with_reducible refine (spec_l1Cur_one.calls g s0_0 t431 t432 12 true t434 t435 w0 _ ?side1 ?side2 A21.out).mono ?_); (case side1 => exact IsS108.at HI0); (case side2 => exact atB HB); rintro e w51 ⟨rfl, hi, hb, hk⟩; refine ⟨_, rfl, ?_⟩; replace HO_5 := IsS108.keepR HI0 HO_5 hk; replace HK := upK HK hk; replace HB := Aside0.mk (hb); replace HI0 := Aside0.mk (hi); (try clear hb); (try clear hb2); (try clear hk); (try clear hi)) | ((with_reducible refine gate_callee (f := 171) rfl ?_); refine goesA (some 53) Try.func171 #[.pointer (some ⟨g, 0, none⟩), .int .i64 (x5_1.length : Int)] ?_; (with_reducible refine (spec_l1Cur_pick.calls g s0_0 t434 t435 (x5_1.length : Int) t436 t437 t438 w0 _ ?side1 ?side2 A23.out).mono ?_); (case side1 => exact IsS108.at HI0); (case side2 => exact atB HB); rintro e w52 ⟨rfl, hi, hb, hk⟩; refine ⟨_, rfl, ?_⟩; replace HO_5 := IsS108.keepR HI0 HO_5 hk; replace HK := upK HK hk; replace HB := Aside0.mk (hb); replace HI0 := Aside0.mk (hi); (try clear hb); (try clear hb2); (try clear hk); (try clear hi); have p439 : 0 ≤ (t430 : Int) := ofd; have q439 : t430 < (x5_1.length : Int) := ofd; obtain ⟨ad439, e439, hx439_0⟩ := Kd.at_int (Kd.R_reads' HO_5.out).2.2 t430 p439 q439; cases e439; replace p439 := eq_true p439; replace q439 := eq_true q439))
              go_roundg kj12
              case measure => have := HK1.out; have := HJ12.out; omega
              case rel => exact ⟨(x5_1), (wrap64 (x6_1 - 1)), (t437), (t438), eqd, H', ⟨by have := HK1.out; have := HJ12.out; omega⟩, ⟨atR HO_5⟩, ⟨IsS108.at HI0⟩, ⟨atK HK⟩, ⟨atB HB⟩⟩
            ·rw [if_neg c30] at H
             exact absurd H (by simp)
           ·rw [if_neg c29] at H
            exact absurd H (by simp)
         ·replace c22 := Bool.eq_false_iff.mpr c22
          subst c22
          have H1 : (if t430 = (wrap64 ((wrap64 (t430 + (wrap64 (1 + t426)))) + a1)) then (spec_l1Cur_surePairs.l0 kj12 a1 x5_1 (wrap64 (x6_1 - 1)) s0_0 t434 t435) else (if 0 ≤ t430 then (if t430 < (x5_1.length : Int) then (if (rd x5_1 t430) = 0 then (if 0 ≤ (wrap64 ((wrap64 (t430 + (wrap64 (1 + t426)))) + a1)) then (if (wrap64 ((wrap64 (t430 + (wrap64 (1 + t426)))) + a1)) < (x5_1.length : Int) then (if (rd x5_1 (wrap64 ((wrap64 (t430 + (wrap64 (1 + t426)))) + a1))) = 0 then (spec_l1Cur_surePairs.l0 kj12 a1 ((x5_1.set (t430 : Int).toNat (wrap64 (1 + t426))).set ((wrap64 ((wrap64 (t430 + (wrap64 (1 + t426)))) + a1)) : Int).toNat (wrap64 (1 + t426))) (wrap64 (x6_1 - 1)) s0_0 t434 t435) else (spec_l1Cur_surePairs.l0 kj12 a1 x5_1 (wrap64 (x6_1 - 1)) s0_0 t434 t435)) else (none)) else (none)) else (spec_l1Cur_surePairs.l0 kj12 a1 x5_1 (wrap64 (x6_1 - 1)) s0_0 t434 t435)) else (none)) else (none))) = some (r1, r2, r3) := by rw [if_neg (show ¬ (false = true) by decide)] at H; exact H
          clear H
          have H := H1
          clear H1
          by_cases c53 : t430 = (wrap64 ((wrap64 (t430 + (wrap64 (1 + t426)))) + a1))
          ·rw [if_pos c53] at H
           have c53b0 : (t430 == (wrap64 ((wrap64 (t430 + (wrap64 (1 + t426)))) + a1))) = true := beq_iff_eq.mpr c53
           have c53b1 : (t430 != (wrap64 ((wrap64 (t430 + (wrap64 (1 + t426)))) + a1))) = false := bne_eq_false_iff_eq.mpr c53
           clear c53
           have H' := Aside0.mk H
           clear H
           obtain ⟨Ao54, co54, eo54⟩ := Kd.R_slice HO_5.out
           subst eo54
           go_wp2_with (first | ((with_reducible refine gate_callee (f := 171) rfl ?_); refine goesA (some 42) Try.func171 #[.pointer (some ⟨g, 0, none⟩), .int .i64 (wrap64 ((wrap64 ((x5_1.length : Int) - (wrap64 (1 + t426)))) - a1))] ?_; (with_reducible refine (spec_l1Cur_pick.calls g s0_0 t427 t428 (wrap64 ((wrap64 ((x5_1.length : Int) - (wrap64 (1 + t426)))) - a1)) t430 t431 t432 w0 _ ?side1 ?side2 A20.out).mono ?_); (case side1 => exact IsS108.at HI0); (case side2 => exact atB HB); rintro e w55 ⟨rfl, hi, hb, hk⟩; refine ⟨_, rfl, ?_⟩; replace HO_5 := IsS108.keepR HI0 HO_5 hk; replace HK := upK HK hk; replace HB := Aside0.mk (hb); replace HI0 := Aside0.mk (hi); (try clear hb); (try clear hb2); (try clear hk); (try clear hi)) | ((with_reducible refine gate_callee (f := 170) rfl ?_); refine goesA (some 49) Try.func170 #[.pointer (some ⟨g, 0, none⟩), .int .i64 12] ?_; (with_reducible refine (spec_l1Cur_one.calls g s0_0 t431 t432 12 false t434 t435 w0 _ ?side1 ?side2 A21.out).mono ?_); (case side1 => exact IsS108.at HI0); (case side2 => exact atB HB); rintro e w56 ⟨rfl, hi, hb, hk⟩; refine ⟨_, rfl, ?_⟩; replace HO_5 := IsS108.keepR HI0 HO_5 hk; replace HK := upK HK hk; replace HB := Aside0.mk (hb); replace HI0 := Aside0.mk (hi); (try clear hb); (try clear hb2); (try clear hk); (try clear hi)))
           go_roundg kj12
           case measure => have := HK1.out; have := HJ12.out; omega
           case rel => exact ⟨(x5_1), (wrap64 (x6_1 - 1)), (t434), (t435), eqd, H', ⟨by have := HK1.out; have := HJ12.out; omega⟩, ⟨atR HO_5⟩, ⟨IsS108.at HI0⟩, ⟨atK HK⟩, ⟨atB HB⟩⟩
          ·rw [if_neg c53] at H
           have c53b0 : (t430 == (wrap64 ((wrap64 (t430 + (wrap64 (1 + t426)))) + a1))) = false := beq_eq_false_iff_ne.mpr c53
           have c53b1 : (t430 != (wrap64 ((wrap64 (t430 + (wrap64 (1 + t426)))) + a1))) = true := bne_iff_ne.mpr c53
           by_cases c57 : 0 ≤ t430
           ·rw [if_pos c57] at H
            have c57b0 : decide (0 ≤ t430) = true := decide_eq_true c57
            clear c57
            by_cases c58 : t430 < (x5_1.length : Int)
            ·rw [if_pos c58] at H
             have c58b0 : decide (t430 < (x5_1.length : Int)) = true := decide_eq_true c58
             clear c58
             by_cases c59 : (rd x5_1 t430) = 0
             ·rw [if_pos c59] at H
              have c59b0 : ((rd x5_1 t430) == 0) = true := beq_iff_eq.mpr c59
              have c59b1 : ((rd x5_1 t430) != 0) = false := bne_eq_false_iff_eq.mpr c59
              clear c59
              obtain ⟨ji60, hji60⟩ : ∃ j_ : Int, (wrap64 ((wrap64 (t430 + (wrap64 (1 + t426)))) + a1)) = j_ := ⟨_, rfl⟩
              replace H : (if 0 ≤ (ji60) then (if (ji60) < (x5_1.length : Int) then (if (rd x5_1 (ji60)) = 0 then (spec_l1Cur_surePairs.l0 kj12 a1 ((x5_1.set (t430 : Int).toNat (wrap64 (1 + t426))).set ((ji60) : Int).toNat (wrap64 (1 + t426))) (wrap64 (x6_1 - 1)) s0_0 t434 t435) else (spec_l1Cur_surePairs.l0 kj12 a1 x5_1 (wrap64 (x6_1 - 1)) s0_0 t434 t435)) else (none)) else (none)) = some (r1, r2, r3) := by first | (rw [hji60] at H; exact H) | (simp only [hji60] at H ⊢; exact H)
              (try rw [hji60] at c53b0)
              (try rw [hji60] at c53b1)
              (try rw [hji60] at A20)
              (try rw [hji60] at A21)
              have hji60w : (IntKind.i64.wrap ((wrap64 (t430 + (wrap64 (1 + t426)))) + a1)) = ji60 := (i64_w _).trans hji60
              by_cases c61 : 0 ≤ (ji60)
              ·rw [if_pos c61] at H
               have c61b0 : decide (0 ≤ (ji60)) = true := decide_eq_true c61
               clear c61
               by_cases c62 : (ji60) < (x5_1.length : Int)
               ·rw [if_pos c62] at H
                have c62b0 : decide ((ji60) < (x5_1.length : Int)) = true := decide_eq_true c62
                clear c62
                by_cases c63 : (rd x5_1 (ji60)) = 0
                ·rw [if_pos c63] at H
                 have c63b0 : ((rd x5_1 (ji60)) == 0) = true := beq_iff_eq.mpr c63
                 have c63b1 : ((rd x5_1 (ji60)) != 0) = false := bne_eq_false_iff_eq.mpr c63
                 clear c63
                 obtain ⟨y445, hy445⟩ : ∃ y_ : List Int, y_ = (x5_1.set (t430 : Int).toNat (wrap64 (1 + t426))) := ⟨_, rfl⟩
                 replace H : (spec_l1Cur_surePairs.l0 kj12 a1 (y445.set ((ji60) : Int).toNat (wrap64 (1 + t426))) (wrap64 (x6_1 - 1)) s0_0 t434 t435) = some (r1, r2, r3) := by first | (rw [hy445]; with_reducible exact H) | (have H2_ := (Option.bind_some _ _).symm.trans H; rw [hy445]; with_reducible exact H2_) | (have H2_ := (Option.bind_some _ _).symm.trans H; with_reducible exact H2_) | with_reducible exact H | (rw [hy445]; exact H) | exact H
                 have Ny445 := Aside0.mk hy445
                 clear hy445
                 obtain ⟨y446, hy446⟩ : ∃ y_ : List Int, y_ = (y445.set ((ji60) : Int).toNat (wrap64 (1 + t426))) := ⟨_, rfl⟩
                 replace H : (spec_l1Cur_surePairs.l0 kj12 a1 y446 (wrap64 (x6_1 - 1)) s0_0 t434 t435) = some (r1, r2, r3) := by first | (rw [hy446]; with_reducible exact H) | (have H2_ := (Option.bind_some _ _).symm.trans H; rw [hy446]; with_reducible exact H2_) | (have H2_ := (Option.bind_some _ _).symm.trans H; with_reducible exact H2_) | with_reducible exact H | (rw [hy446]; exact H) | exact H
                 have Ny446 := Aside0.mk hy446
                 clear hy446
                 have H' := Aside0.mk H
                 clear H
                 obtain ⟨Ao66, co66, eo66⟩ := Kd.R_slice HO_5.out
                 subst eo66
                 go_wp2_with (first | ((with_reducible refine gate_callee (f := 171) rfl ?_); refine goesA (some 42) Try.func171 #[.pointer (some ⟨g, 0, none⟩), .int .i64 (wrap64 ((wrap64 ((x5_1.length : Int) - (wrap64 (1 + t426)))) - a1))] ?_; (with_reducible refine (spec_l1Cur_pick.calls g s0_0 t427 t428 (wrap64 ((wrap64 ((x5_1.length : Int) - (wrap64 (1 + t426)))) - a1)) t430 t431 t432 w0 _ ?side1 ?side2 A20.out).mono ?_); (case side1 => exact IsS108.at HI0); (case side2 => exact atB HB); rintro e w67 ⟨rfl, hi, hb, hk⟩; refine ⟨_, rfl, ?_⟩; replace HO_5 := IsS108.keepR HI0 HO_5 hk; replace HK := upK HK hk; replace HB := Aside0.mk (hb); replace HI0 := Aside0.mk (hi); (try clear hb); (try clear hb2); (try clear hk); (try clear hi)) | ((with_reducible refine gate_callee (f := 170) rfl ?_); refine goesA (some 49) Try.func170 #[.pointer (some ⟨g, 0, none⟩), .int .i64 12] ?_; (with_reducible refine (spec_l1Cur_one.calls g s0_0 t431 t432 12 false t434 t435 w0 _ ?side1 ?side2 A21.out).mono ?_); (case side1 => exact IsS108.at HI0); (case side2 => exact atB HB); rintro e w68 ⟨rfl, hi, hb, hk⟩; refine ⟨_, rfl, ?_⟩; replace HO_5 := IsS108.keepR HI0 HO_5 hk; replace HK := upK HK hk; replace HB := Aside0.mk (hb); replace HI0 := Aside0.mk (hi); (try clear hb); (try clear hb2); (try clear hk); (try clear hi); have p443 : 0 ≤ (t430 : Int) := ofd; have q443 : t430 < (x5_1.length : Int) := ofd; obtain ⟨ad443, e443, hx443_0⟩ := Kd.at_int (Kd.R_reads' HO_5.out).2.2 t430 p443 q443; cases e443; replace p443 := eq_true p443; replace q443 := eq_true q443; have p444 : 0 ≤ ((ji60) : Int) := ofd; have q444 : (ji60) < (x5_1.length : Int) := ofd; obtain ⟨ad444, e444, hx444_0⟩ := Kd.at_int (Kd.R_reads' HO_5.out).2.2 (ji60) p444 q444; obtain rfl : ad443 = ad444 := (by injection e444); replace p444 := eq_true p444; replace q444 := eq_true q444; have p64 : 0 ≤ (t430 : Int) := ofd; have q64 : (t430 : Int) < ((x5_1.length : Int) : Int) := ofd; obtain ⟨go64, co64, eo64, gb64, gl64, cl64, HG64⟩ := Kd.R_form HO_5.out (by omega); (first | cases eo64 | (injection eo64 with ea_ en_ ec_; (first | subst ea_ | (injection ea_ with ea_; subst ea_)); subst ec_; clear en_)); have GB64 := Aside0.mk gb64; have GG64 := Aside0.mk HG64; clear gb64 gl64 HG64; (first | simp only [add_plain] at hx443_0 | skip); (first | simp only [add_plain] at hx444_0 | skip); obtain ⟨hx64_0, hf64_0⟩ := Kd.R_celln 0 HO_5.out (t430 : Int) p64 q64; replace p64 := eq_true p64; replace q64 := eq_true q64; obtain ⟨hy69_, hz69_⟩ := Kd.R_celln 0 HO_5.out (t430 : Int) (of_decide_eq_true (by first | (with_reducible assumption) | assumption)) (of_decide_eq_true (by first | (with_reducible assumption) | assumption)); have HP69 := Kd.R_putg HO_5.out (t430 : Int) (wrap64 (1 + t426))) | ((with_reducible refine gate_store (t := 3) (p := 74) rfl ?_); refine store_event (t := 3) (p := 74) (v := ?vo_w70) (w1 := (w68.setCell ⟨go64, (t430 : Int).toNat, none⟩ (.int .i64 (wrap64 (1 + t426))))) ?hg ?ho ?hn ?hr ?_; (case ho => rfl); (case hg => rfl); (case hn => rfl); (case hr => first | (go_simp; done) | (go_simp; rfl)); intro w70 hw; have hg : w68.grownBy w70 (some go64) := (by rw [hw]; exact HP69.2); have hp_ : Kd.R (Kd.int .i64) 3 w70 w.heap.size (fun _ => True) (.slice (some ⟨go64, 0, none⟩) x5_1.length co66) y445 := (by rw [hw, Ny445.out]; exact HP69.1); clear HP69; replace HI0 := Aside0.mk (IsS108.grown (IsS108.at HI0) hg (IsS108.own_ne HI0.out HO_5.out (by decide))); replace HB := Aside0.mk ((by rw [hw]; exact below_set (HB.out) (Nat.le_trans HL.out GB64.out) : Below w0.heap.size w0 w70)); replace HK := Aside0.mk (KeepBut.trans (atK HK) (KeepBut.of_grown hg g) (Kd.R_base2 HO_5.out)); replace HO_5 := Aside0.mk (hp_); clear hg hw hp_; have p65 : 0 ≤ ((ji60) : Int) := ofd; have q65 : ((ji60) : Int) < ((x5_1.length : Int) : Int) := ofd; obtain ⟨hx65_0, hf65_0⟩ := Kd.R_celln 0 HO_5.out ((ji60) : Int) p65 q65; replace p65 := eq_true p65; replace q65 := eq_true q65; obtain ⟨hy71_, hz71_⟩ := Kd.R_celln 0 HO_5.out ((ji60) : Int) (of_decide_eq_true (by first | (with_reducible assumption) | assumption)) (of_decide_eq_true (by first | (with_reducible assumption) | assumption)); have HP71 := Kd.R_putg HO_5.out ((ji60) : Int) (wrap64 (1 + t426))) | ((with_reducible refine gate_store (t := 3) (p := 78) rfl ?_); refine store_event (t := 3) (p := 78) (v := ?vo_w72) (w1 := (w70.setCell ⟨go64, ((ji60) : Int).toNat, none⟩ (.int .i64 (wrap64 (1 + t426))))) ?hg ?ho ?hn ?hr ?_; (case ho => rfl); (case hg => rfl); (case hn => rfl); (case hr => first | (go_simp; done) | (go_simp; rfl)); intro w72 hw; have hg : w70.grownBy w72 (some go64) := (by rw [hw]; exact HP71.2); have hp_ : Kd.R (Kd.int .i64) 3 w72 w.heap.size (fun _ => True) (.slice (some ⟨go64, 0, none⟩) x5_1.length co66) y446 := (by rw [hw, Ny446.out]; exact HP71.1); clear HP71; replace HI0 := Aside0.mk (IsS108.grown (IsS108.at HI0) hg (IsS108.own_ne HI0.out HO_5.out (by decide))); replace HB := Aside0.mk ((by rw [hw]; exact below_set (HB.out) (Nat.le_trans HL.out GB64.out) : Below w0.heap.size w0 w72)); replace HK := Aside0.mk (KeepBut.trans (atK HK) (KeepBut.of_grown hg g) (Kd.R_base2 HO_5.out)); replace HO_5 := Aside0.mk (hp_); clear hg hw hp_))
                 go_roundg kj12
                 case measure => have := HK1.out; have := HJ12.out; omega
                 case rel => exact ⟨(y446), (wrap64 (x6_1 - 1)), (t434), (t435), eqd, H', ⟨by have := HK1.out; have := HJ12.out; omega⟩, ⟨atR HO_5⟩, ⟨IsS108.at HI0⟩, ⟨atK HK⟩, ⟨atB HB⟩⟩
                ·rw [if_neg c63] at H
                 have c63b0 : ((rd x5_1 (ji60)) == 0) = false := beq_eq_false_iff_ne.mpr c63
                 have c63b1 : ((rd x5_1 (ji60)) != 0) = true := bne_iff_ne.mpr c63
                 have H' := Aside0.mk H
                 clear H
                 obtain ⟨Ao73, co73, eo73⟩ := Kd.R_slice HO_5.out
                 subst eo73
                 go_wp2_with (first | ((with_reducible refine gate_callee (f := 171) rfl ?_); refine goesA (some 42) Try.func171 #[.pointer (some ⟨g, 0, none⟩), .int .i64 (wrap64 ((wrap64 ((x5_1.length : Int) - (wrap64 (1 + t426)))) - a1))] ?_; (with_reducible refine (spec_l1Cur_pick.calls g s0_0 t427 t428 (wrap64 ((wrap64 ((x5_1.length : Int) - (wrap64 (1 + t426)))) - a1)) t430 t431 t432 w0 _ ?side1 ?side2 A20.out).mono ?_); (case side1 => exact IsS108.at HI0); (case side2 => exact atB HB); rintro e w74 ⟨rfl, hi, hb, hk⟩; refine ⟨_, rfl, ?_⟩; replace HO_5 := IsS108.keepR HI0 HO_5 hk; replace HK := upK HK hk; replace HB := Aside0.mk (hb); replace HI0 := Aside0.mk (hi); (try clear hb); (try clear hb2); (try clear hk); (try clear hi)) | ((with_reducible refine gate_callee (f := 170) rfl ?_); refine goesA (some 49) Try.func170 #[.pointer (some ⟨g, 0, none⟩), .int .i64 12] ?_; (with_reducible refine (spec_l1Cur_one.calls g s0_0 t431 t432 12 false t434 t435 w0 _ ?side1 ?side2 A21.out).mono ?_); (case side1 => exact IsS108.at HI0); (case side2 => exact atB HB); rintro e w75 ⟨rfl, hi, hb, hk⟩; refine ⟨_, rfl, ?_⟩; replace HO_5 := IsS108.keepR HI0 HO_5 hk; replace HK := upK HK hk; replace HB := Aside0.mk (hb); replace HI0 := Aside0.mk (hi); (try clear hb); (try clear hb2); (try clear hk); (try clear hi); have p443 : 0 ≤ (t430 : Int) := ofd; have q443 : t430 < (x5_1.length : Int) := ofd; obtain ⟨ad443, e443, hx443_0⟩ := Kd.at_int (Kd.R_reads' HO_5.out).2.2 t430 p443 q443; cases e443; replace p443 := eq_true p443; replace q443 := eq_true q443; have p444 : 0 ≤ ((ji60) : Int) := ofd; have q444 : (ji60) < (x5_1.length : Int) := ofd; obtain ⟨ad444, e444, hx444_0⟩ := Kd.at_int (Kd.R_reads' HO_5.out).2.2 (ji60) p444 q444; obtain rfl : ad443 = ad444 := (by injection e444); replace p444 := eq_true p444; replace q444 := eq_true q444))
                 go_roundg kj12
                 case measure => have := HK1.out; have := HJ12.out; omega
                 case rel => exact ⟨(x5_1), (wrap64 (x6_1 - 1)), (t434), (t435), eqd, H', ⟨by have := HK1.out; have := HJ12.out; omega⟩, ⟨atR HO_5⟩, ⟨IsS108.at HI0⟩, ⟨atK HK⟩, ⟨atB HB⟩⟩
               ·rw [if_neg c62] at H
                exact absurd H (by simp)
              ·rw [if_neg c61] at H
               exact absurd H (by simp)
             ·rw [if_neg c59] at H
              have c59b0 : ((rd x5_1 t430) == 0) = false := beq_eq_false_iff_ne.mpr c59
              have c59b1 : ((rd x5_1 t430) != 0) = true := bne_iff_ne.mpr c59
              have H' := Aside0.mk H
              clear H
              obtain ⟨Ao76, co76, eo76⟩ := Kd.R_slice HO_5.out
              subst eo76
              go_wp2_with (first | ((with_reducible refine gate_callee (f := 171) rfl ?_); refine goesA (some 42) Try.func171 #[.pointer (some ⟨g, 0, none⟩), .int .i64 (wrap64 ((wrap64 ((x5_1.length : Int) - (wrap64 (1 + t426)))) - a1))] ?_; (with_reducible refine (spec_l1Cur_pick.calls g s0_0 t427 t428 (wrap64 ((wrap64 ((x5_1.length : Int) - (wrap64 (1 + t426)))) - a1)) t430 t431 t432 w0 _ ?side1 ?side2 A20.out).mono ?_); (case side1 => exact IsS108.at HI0); (case side2 => exact atB HB); rintro e w77 ⟨rfl, hi, hb, hk⟩; refine ⟨_, rfl, ?_⟩; replace HO_5 := IsS108.keepR HI0 HO_5 hk; replace HK := upK HK hk; replace HB := Aside0.mk (hb); replace HI0 := Aside0.mk (hi); (try clear hb); (try clear hb2); (try clear hk); (try clear hi)) | ((with_reducible refine gate_callee (f := 170) rfl ?_); refine goesA (some 49) Try.func170 #[.pointer (some ⟨g, 0, none⟩), .int .i64 12] ?_; (with_reducible refine (spec_l1Cur_one.calls g s0_0 t431 t432 12 false t434 t435 w0 _ ?side1 ?side2 A21.out).mono ?_); (case side1 => exact IsS108.at HI0); (case side2 => exact atB HB); rintro e w78 ⟨rfl, hi, hb, hk⟩; refine ⟨_, rfl, ?_⟩; replace HO_5 := IsS108.keepR HI0 HO_5 hk; replace HK := upK HK hk; replace HB := Aside0.mk (hb); replace HI0 := Aside0.mk (hi); (try clear hb); (try clear hb2); (try clear hk); (try clear hi); have p443 : 0 ≤ (t430 : Int) := ofd; have q443 : t430 < (x5_1.length : Int) := ofd; obtain ⟨ad443, e443, hx443_0⟩ := Kd.at_int (Kd.R_reads' HO_5.out).2.2 t430 p443 q443; cases e443; replace p443 := eq_true p443; replace q443 := eq_true q443))
              go_roundg kj12
              case measure => have := HK1.out; have := HJ12.out; omega
              case rel => exact ⟨(x5_1), (wrap64 (x6_1 - 1)), (t434), (t435), eqd, H', ⟨by have := HK1.out; have := HJ12.out; omega⟩, ⟨atR HO_5⟩, ⟨IsS108.at HI0⟩, ⟨atK HK⟩, ⟨atB HB⟩⟩
            ·rw [if_neg c58] at H
             exact absurd H (by simp)
           ·rw [if_neg c57] at H
            exact absurd H (by simp)
     ·rw [if_neg c11] at H
      have c11b0 : decide (0 < x6_1) = false := decide_eq_false c11
      clear c11
      simp only [Option.some.injEq, Prod.mk.injEq] at H
      obtain ⟨rfl, rfl, rfl⟩ := H
      go_wp2
      go_ret
      exact ⟨_, eqr, atR HO_5, IsS108.at HI0, atB HB, atK HK⟩
  ·rw [if_neg c5] at H
   exact absurd H (by simp)
 ·rw [if_neg c4] at H
  exact absurd H (by simp)

noncomputable def spec_l1Cur_surePairs.L0 (x1 : Int) (x5 : List Int) (x6 : Int) (x1000 : List Int) (x1001 : Int) (x1002 : Int) : Option (List Int × Int × Int) := lim fun k => spec_l1Cur_surePairs.l0 k x1 x5 x6 x1000 x1001 x1002
theorem spec_l1Cur_surePairs.L0_lim (x1 : Int) (x5 : List Int) (x6 : Int) (x1000 : List Int) (x1001 : Int) (x1002 : Int) : Lim (fun k => spec_l1Cur_surePairs.l0 k x1 x5 x6 x1000 x1001 x1002) (spec_l1Cur_surePairs.L0 x1 x5 x6 x1000 x1001 x1002) := Lim.of fun k => (spec_l1Cur_surePairs.mono_l k).1 x1 x5 x6 x1000 x1001 x1002
noncomputable def spec_l1Cur_surePairs.J1 (x1 : Int) (x5 : List Int) (x6 : Int) (x7 : Int) (x34 : Bool) (x1000 : List Int) (x1001 : Int) (x1002 : Int) : Option (List Int × Int × Int) := lim fun k => spec_l1Cur_surePairs.j1 k x1 x5 x6 x7 x34 x1000 x1001 x1002
theorem spec_l1Cur_surePairs.J1_lim (x1 : Int) (x5 : List Int) (x6 : Int) (x7 : Int) (x34 : Bool) (x1000 : List Int) (x1001 : Int) (x1002 : Int) : Lim (fun k => spec_l1Cur_surePairs.j1 k x1 x5 x6 x7 x34 x1000 x1001 x1002) (spec_l1Cur_surePairs.J1 x1 x5 x6 x7 x34 x1000 x1001 x1002) := Lim.of fun k => (spec_l1Cur_surePairs.mono_l k).2 x1 x5 x6 x7 x34 x1000 x1001 x1002
noncomputable def spec_l1Cur_surePairs.F (s0_0 : List Int) (s0_1 : Int) (s0_2 : Int) (a1 : Int) : Option (List Int × Int × Int) := lim fun k => spec_l1Cur_surePairs.f k s0_0 s0_1 s0_2 a1
theorem spec_l1Cur_surePairs.F_lim (s0_0 : List Int) (s0_1 : Int) (s0_2 : Int) (a1 : Int) : Lim (fun k => spec_l1Cur_surePairs.f k s0_0 s0_1 s0_2 a1) (spec_l1Cur_surePairs.F s0_0 s0_1 s0_2 a1) := Lim.of fun k => spec_l1Cur_surePairs.mono s0_0 s0_1 s0_2 a1 k
theorem spec_l1Cur_surePairs.L0_eq (x1 : Int) (x5 : List Int) (x6 : Int) (x1000 : List Int) (x1001 : Int) (x1002 : Int) : spec_l1Cur_surePairs.L0 x1 x5 x6 x1000 x1001 x1002 = (if x6 > 0 then ((spec_l1Cur_pick.f x1000 x1001 x1002 8).bind fun bt426 => ((spec_l1Has.F x5 (wrap64 (1 + bt426.1))).bind fun t429 => (if t429 = true then (spec_l1Cur_surePairs.J1 x1 x5 x6 (wrap64 (1 + bt426.1)) true x1000 bt426.2.1 bt426.2.2) else (spec_l1Cur_surePairs.J1 x1 x5 x6 (wrap64 (1 + bt426.1)) (decide ((x5.length : Int) < (wrap64 ((wrap64 ((wrap64 (1 + bt426.1)) + x1)) + 1)))) x1000 bt426.2.1 bt426.2.2)))) else (some (x5, x1001, x1002))) :=
 Lim.step (f := fun k => spec_l1Cur_surePairs.l0 (k + 1) x1 x5 x6 x1000 x1001 x1002) (spec_l1Cur_surePairs.L0_lim x1 x5 x6 x1000 x1001 x1002) (fun _ => rfl) (by
  simp only [spec_l1Cur_surePairs.l0]
  repeat' (first | (with_reducible first | exact Lim.const _ | exact spec_l1Cur_surePairs.J1_lim _ _ _ _ _ _ _ _ | exact spec_l1Has.F_lim _ _ | refine Lim.ite ?_ ?_ | refine Lim.bind ?_ (fun _ => ?_))))
theorem spec_l1Cur_surePairs.J1_eq (x1 : Int) (x5 : List Int) (x6 : Int) (x7 : Int) (x34 : Bool) (x1000 : List Int) (x1001 : Int) (x1002 : Int) : spec_l1Cur_surePairs.J1 x1 x5 x6 x7 x34 x1000 x1001 x1002 = (if x34 = true then (spec_l1Cur_surePairs.L0 x1 x5 (wrap64 (x6 - 1)) x1000 x1001 x1002) else ((spec_l1Cur_pick.f x1000 x1001 x1002 (wrap64 ((wrap64 ((x5.length : Int) - x7)) - x1))).bind fun bt430 => ((spec_l1Cur_one.f x1000 bt430.2.1 bt430.2.2 12).bind fun bt433 => (if bt433.1 = true then ((spec_l1Cur_pick.f x1000 bt433.2.1 bt433.2.2 (x5.length : Int)).bind fun bt436 => (if bt430.1 = bt436.1 then (spec_l1Cur_surePairs.L0 x1 x5 (wrap64 (x6 - 1)) x1000 bt436.2.1 bt436.2.2) else (if 0 ≤ bt430.1 then (if bt430.1 < (x5.length : Int) then (if (rd x5 bt430.1) = 0 then (if 0 ≤ bt436.1 then (if bt436.1 < (x5.length : Int) then (if (rd x5 bt436.1) = 0 then (spec_l1Cur_surePairs.L0 x1 ((x5.set (bt430.1 : Int).toNat x7).set (bt436.1 : Int).toNat x7) (wrap64 (x6 - 1)) x1000 bt436.2.1 bt436.2.2) else (spec_l1Cur_surePairs.L0 x1 x5 (wrap64 (x6 - 1)) x1000 bt436.2.1 bt436.2.2)) else (none)) else (none)) else (spec_l1Cur_surePairs.L0 x1 x5 (wrap64 (x6 - 1)) x1000 bt436.2.1 bt436.2.2)) else (none)) else (none)))) else (if bt430.1 = (wrap64 ((wrap64 (bt430.1 + x7)) + x1)) then (spec_l1Cur_surePairs.L0 x1 x5 (wrap64 (x6 - 1)) x1000 bt433.2.1 bt433.2.2) else (if 0 ≤ bt430.1 then (if bt430.1 < (x5.length : Int) then (if (rd x5 bt430.1) = 0 then (if 0 ≤ (wrap64 ((wrap64 (bt430.1 + x7)) + x1)) then (if (wrap64 ((wrap64 (bt430.1 + x7)) + x1)) < (x5.length : Int) then (if (rd x5 (wrap64 ((wrap64 (bt430.1 + x7)) + x1))) = 0 then (spec_l1Cur_surePairs.L0 x1 ((x5.set (bt430.1 : Int).toNat x7).set ((wrap64 ((wrap64 (bt430.1 + x7)) + x1)) : Int).toNat x7) (wrap64 (x6 - 1)) x1000 bt433.2.1 bt433.2.2) else (spec_l1Cur_surePairs.L0 x1 x5 (wrap64 (x6 - 1)) x1000 bt433.2.1 bt433.2.2)) else (none)) else (none)) else (spec_l1Cur_surePairs.L0 x1 x5 (wrap64 (x6 - 1)) x1000 bt433.2.1 bt433.2.2)) else (none)) else (none))))))) :=
 Lim.step (f := fun k => spec_l1Cur_surePairs.j1 (k + 1) x1 x5 x6 x7 x34 x1000 x1001 x1002) (spec_l1Cur_surePairs.J1_lim x1 x5 x6 x7 x34 x1000 x1001 x1002) (fun _ => rfl) (by
  simp only [spec_l1Cur_surePairs.j1]
  repeat' (first | (with_reducible first | exact Lim.const _ | exact spec_l1Cur_surePairs.L0_lim _ _ _ _ _ _ | refine Lim.ite ?_ ?_ | refine Lim.bind ?_ (fun _ => ?_))))
theorem spec_l1Cur_surePairs.F_eq (s0_0 : List Int) (s0_1 : Int) (s0_2 : Int) (a1 : Int) : spec_l1Cur_surePairs.F s0_0 s0_1 s0_2 a1 = ((spec_l1Cur_pick.f s0_0 s0_1 s0_2 15).bind fun bt417 => (if 0 ≤ bt417.1 then (if (bt417.1 : Int).toNat ≤ 35184372088832 then ((spec_l1Cur_pick.f s0_0 bt417.2.1 bt417.2.2 6).bind fun bt423 => (spec_l1Cur_surePairs.L0 a1 (List.replicate (bt417.1 : Int).toNat 0) (wrap64 (1 + bt423.1)) s0_0 bt423.2.1 bt423.2.2)) else (none)) else (none))) :=
 Lim.unique (spec_l1Cur_surePairs.F_lim s0_0 s0_1 s0_2 a1) (by
  unfold spec_l1Cur_surePairs.f
  repeat' (first | (with_reducible first | exact Lim.const _ | exact spec_l1Cur_surePairs.L0_lim _ _ _ _ _ _ | refine Lim.ite ?_ ?_ | refine Lim.bind ?_ (fun _ => ?_))))

end Go.Proofs.Ytaohgllnoomaeaa.Fn
namespace Go.Proofs.Ytaohgllnoomaeaa.Fn
open Go.RowKit Go.Proofs.YtaohgllnoomaeaaW.PrintWords Go.Proofs.YtaohgllnoomaeaaW.PrintLast Go.Proofs.YtaohgllnoomaeaaW.PrintMore
attribute [local go_sem] max2_int min2_int max_two min_two max_three min_three max_four min_four   -- for this text's walks alone
set_option linter.unusedVariables false
set_option linter.unusedSimpArgs false

/-! ### spec_roBack: function 235 -/
def spec_roBack.l0 : Nat → List Int → List Int → Int → Option (List Int)
 | 0, _, _, _ => none
 | k + 1, x0, x3, x4 => if x4 ≥ 0 then (if 0 ≤ x4 then (if x4 < (x0.length : Int) then (if x3.length < 17592186044416 then (spec_roBack.l0 k x0 (x3 ++ [rd x0 x4]) (wrap64 (x4 - 1))) else (none)) else (none)) else (none)) else (some x3)
def spec_roBack.f (k : Nat) (l0 : List Int) : Option (List Int) := spec_roBack.l0 k l0 ([] : List Int) (wrap64 ((l0.length : Int) - 1))
theorem spec_roBack.mono_l : ∀ k, (∀ y0 y1 y2, LeO (spec_roBack.l0 k y0 y1 y2) (spec_roBack.l0 (k + 1) y0 y1 y2))
 | 0 => fun _ _ _ r h => by simp [spec_roBack.l0] at h
 | k + 1 => by
  have ih0 := spec_roBack.mono_l k
  ·intro y0 y1 y2
   unfold spec_roBack.l0
   repeat' (first | (with_reducible first | exact ih0 _ _ _ | exact LeO.refl _ | exact LeO.none _ | refine LeO.ite ?_ ?_ | refine LeO.bind ?_ (fun _ => ?_)) | exact ih0 _ _ _ | exact LeO.none _ | refine LeO.ite ?_ ?_ | refine LeO.bind ?_ (fun _ => ?_))
theorem spec_roBack.mono : ∀ a0 k, LeO (spec_roBack.f k a0) (spec_roBack.f (k + 1) a0) := by
 intro a0 k
 have ih0 := spec_roBack.mono_l k
 unfold spec_roBack.f
 repeat' (first | (with_reducible first | exact ih0 _ _ _ | exact LeO.refl _ | exact LeO.none _ | refine LeO.ite ?_ ?_ | refine LeO.bind ?_ (fun _ => ?_)) | exact ih0 _ _ _ | exact LeO.none _ | refine LeO.ite ?_ ?_ | refine LeO.bind ?_ (fun _ => ?_))
set_option maxHeartbeats 8000000 in
set_option maxRecDepth 100000 in
theorem spec_roBack.calls (k : Nat) (A0 : Option Addr) (c0 : Nat) (l0 : List Int) (r : List Int) (w : World) (hr0 : Kd.C (Kd.int .i64) w A0 l0.length l0) (hc0 : l0.length ≤ c0) (h : spec_roBack.f k l0 = some r) :
  Calls Try.prog 235 #[.slice A0 l0.length c0] w fun e w' => ∃ v0_ : Value, e = .returned (v0_) ∧ Kd.R (Kd.int .i64) 3 w' w.heap.size (fun _ => True) v0_ r ∧ Below w.heap.size w w' := by
 have HR0 := Aside0.mk hr0
 have HC0 := Aside0.mk hc0
 clear hr0 hc0
 have HB := Aside0.mk (Below.refl w.heap.size w)
 have H := h
 unfold spec_roBack.f at H
 clear h
 have H' := Aside0.mk H
 clear H
 go_enter Try.func235, Try.ntmps235
 go_wp2
 go_loopg [3, 4] k (fun kq v3 v4 w' => ∃ (x3_1 : List Int) (x4_1 : Int), v4 = .int .i64 x4_1 ∧ Aside0 (spec_roBack.l0 kq l0 x3_1 x4_1 = some r) ∧ Aside0 (kq ≤ k) ∧ Aside0 (Kd.R (Kd.int .i64) 3 w' w.heap.size (fun _ => True) v3 x3_1) ∧ Aside0 (Below w.heap.size w w'))
 case atStart => exact ⟨(([] : List Int)), (wrap64 ((l0.length : Int) - 1)), eqd, H', ⟨Nat.le_refl _⟩, ⟨by first | exact Kd.R_nil _ _ _ _ _ | exact Kd.N_nil _ _ _ _ _ | exact Kd.V_nil _ _ _ _ _ | exact Kd.Q_nil _ _ _ _ _ | exact Kd.S_nil _ _ _ _ _⟩, ⟨atB HB⟩⟩
 case round =>
  clear H'
  obtain ⟨x3_1, x4_1, rfl, HA, HK1, HO_3, HB⟩ := hrel
  cases gk with
  | zero => exact absurd HA.out (by simp [spec_roBack.l0])
  | succ k1 =>
   have H := HA.out
   clear HA
   simp only [spec_roBack.l0] at H
   by_cases c2 : x4_1 ≥ 0
   ·rw [if_pos c2] at H
    have c2b0 : decide (0 ≤ x4_1) = true := decide_eq_true c2
    clear c2
    by_cases c3 : 0 ≤ x4_1
    ·rw [if_pos c3] at H
     have c3b0 : decide (0 ≤ x4_1) = true := decide_eq_true c3
     clear c3
     by_cases c4 : x4_1 < (l0.length : Int)
     ·rw [if_pos c4] at H
      have c4b0 : decide (x4_1 < (l0.length : Int)) = true := decide_eq_true c4
      clear c4
      by_cases c5 : x3_1.length < 17592186044416
      ·rw [if_pos c5] at H
       have LMc5 := Aside0.mk c5
       clear c5
       obtain ⟨y448, hy448⟩ : ∃ y_ : List Int, y_ = (x3_1 ++ [rd l0 x4_1]) := ⟨_, rfl⟩
       replace H : (spec_roBack.l0 k1 l0 y448 (wrap64 (x4_1 - 1))) = some r := by first | (rw [hy448]; with_reducible exact H) | (have H2_ := (Option.bind_some _ _).symm.trans H; rw [hy448]; with_reducible exact H2_) | (have H2_ := (Option.bind_some _ _).symm.trans H; with_reducible exact H2_) | with_reducible exact H | (rw [hy448]; exact H) | exact H
       have Ny448 := Aside0.mk hy448
       clear hy448
       have H' := Aside0.mk H
       clear H
       have p447 : 0 ≤ (x4_1 : Int) := ofd
       have q447 : x4_1 < (l0.length : Int) := ofd
       obtain ⟨ad447, e447, hx447_0⟩ := Kd.at_int HR0.out x4_1 p447 q447
       cases e447
       replace hx447_0 := (HB.out.cell (World.block_lt_of_cell? w _ hx447_0)).trans hx447_0
       replace p447 := eq_true p447
       replace q447 := eq_true q447
       go_wp2_with (first | ((with_reducible refine gate_builtin (b := .append) (xs := #[.tmp 12, .tmp 17]) rfl ?_); at_builtin; refine Kd.R_append (Kd.int .i64) (w0 := w) w.heap.size rfl (.tmp 12) (.tmp 17) 31 3 (.int .i64 0) 8 rfl Try.underlying31 info3 rfl (by decide) (by omega) u3 x3_1 (rd l0 x4_1) [.int .i64 (rd l0 x4_1)] (fun _ => True) (fun _ => False) rfl rfl ?aP (fun _ hk => hk.elim) ?aF ?aO ?aB ?aS ?aL ?_; (case aP => exact rfl); (case aB => exact (atB HB)); (case aF => exact (fun _ _ => trivial)); (case aO => exact (atR HO_3)); (case aS => exact (szB HB)); (case aL => have := LMc5.out; omega); intro v449 w6 ho hb hg hat; rw [← Ny448.out] at ho; have HO450 := Aside0.mk (ho); replace HB := Aside0.mk (hb); clear HO_3; clear ho hb hg hat))
       go_roundg k1
       case measure => have := HK1.out; omega
       case rel => exact ⟨(y448), (wrap64 (x4_1 - 1)), eqd, H', ⟨by have := HK1.out; omega⟩, ⟨atR HO450⟩, ⟨atB HB⟩⟩
      ·rw [if_neg c5] at H
       exact absurd H (by simp)
     ·rw [if_neg c4] at H
      exact absurd H (by simp)
    ·rw [if_neg c3] at H
     exact absurd H (by simp)
   ·rw [if_neg c2] at H
    have c2b0 : decide (0 ≤ x4_1) = false := decide_eq_false c2
    clear c2
    obtain rfl := Option.some.inj H
    go_wp2
    go_ret
    exact ⟨_, eqr, atR HO_3, atB HB⟩

noncomputable def spec_roBack.L0 (x0 : List Int) (x3 : List Int) (x4 : Int) : Option (List Int) := lim fun k => spec_roBack.l0 k x0 x3 x4
theorem spec_roBack.L0_lim (x0 : List Int) (x3 : List Int) (x4 : Int) : Lim (fun k => spec_roBack.l0 k x0 x3 x4) (spec_roBack.L0 x0 x3 x4) := Lim.of fun k => (spec_roBack.mono_l k) x0 x3 x4
noncomputable def spec_roBack.F (l0 : List Int) : Option (List Int) := lim fun k => spec_roBack.f k l0
theorem spec_roBack.F_lim (l0 : List Int) : Lim (fun k => spec_roBack.f k l0) (spec_roBack.F l0) := Lim.of fun k => spec_roBack.mono l0 k
theorem spec_roBack.L0_eq (x0 : List Int) (x3 : List Int) (x4 : Int) : spec_roBack.L0 x0 x3 x4 = (if x4 ≥ 0 then (if 0 ≤ x4 then (if x4 < (x0.length : Int) then (if x3.length < 17592186044416 then (spec_roBack.L0 x0 (x3 ++ [rd x0 x4]) (wrap64 (x4 - 1))) else (none)) else (none)) else (none)) else (some x3)) :=
 Lim.step (f := fun k => spec_roBack.l0 (k + 1) x0 x3 x4) (spec_roBack.L0_lim x0 x3 x4) (fun _ => rfl) (by
  simp only [spec_roBack.l0]
  repeat' (first | (with_reducible first | exact Lim.const _ | exact spec_roBack.L0_lim _ _ _ | refine Lim.ite ?_ ?_ | refine Lim.bind ?_ (fun _ => ?_))))
theorem spec_roBack.F_eq (l0 : List Int) : spec_roBack.F l0 = (spec_roBack.L0 l0 ([] : List Int) (wrap64 ((l0.length : Int) - 1))) :=
 Lim.unique (spec_roBack.F_lim l0) (by
  unfold spec_roBack.f
  repeat' (first | (with_reducible first | exact Lim.const _ | exact spec_roBack.L0_lim _ _ _ | refine Lim.ite ?_ ?_ | refine Lim.bind ?_ (fun _ => ?_))))

end Go.Proofs.Ytaohgllnoomaeaa.Fn
namespace Go.Proofs.Ytaohgllnoomaeaa.Fn
open Go.RowKit Go.Proofs.YtaohgllnoomaeaaW.PrintWords Go.Proofs.YtaohgllnoomaeaaW.PrintLast Go.Proofs.YtaohgllnoomaeaaW.PrintMore
attribute [local go_sem] max2_int min2_int max_two min_two max_three min_three max_four min_four   -- for this text's walks alone
set_option linter.unusedVariables false
set_option linter.unusedSimpArgs false

/-! ### spec_l1Cur_row: function 188 -/
def spec_l1Cur_row.j0 : Nat → Bool → List Int → Int → Int → Option (List Int × Int × Int)
 | 0, _, _, _, _ => none
 | k + 1, x26, x1000, x1001, x1002 => if x26 = true then ((some (([(([1, 1] : List Int)), (([3, 1, 2, 1, 3, 2] : List Int)), (([1, 1, 2, 0, 2] : List Int)), (([4, 2, 3, 2, 4, 3, 1, 1] : List Int)), (([2, 3, 4, 2, 1, 3, 1, 4] : List Int)), (([4, 1, 3, 1, 2, 4, 3, 2] : List Int)), (([3, 1, 1, 3, 2, 0, 2] : List Int)), (([5, 2, 4, 2, 3, 5, 4, 3, 1, 1] : List Int)), (([2, 3, 2, 0, 3] : List Int))] : List (List Int)) : List (List Int))).bind fun y504 => ((spec_l1Cur_pick.f x1000 x1001 x1002 (y504.length : Int)).bind fun bt507 => (if 0 ≤ bt507.1 then (if bt507.1 < (y504.length : Int) then ((spec_l1Own.f (rd_L2 y504 bt507.1)).bind fun t511 => ((spec_l1Cur_one.f x1000 bt507.2.1 bt507.2.2 3).bind fun bt514 => (if bt514.1 = true then ((spec_roBack.f k t511).bind fun t517 => (some (t517, bt514.2.1, bt514.2.2))) else (some (t511, bt514.2.1, bt514.2.2))))) else (none)) else (none)))) else ((spec_l1Cur_pick.f x1000 x1001 x1002 2).bind fun bt520 => ((spec_l1Cur_surePairs.f k x1000 bt520.2.1 bt520.2.2 bt520.1).bind fun bt523 => (some (bt523.1, bt523.2.1, bt523.2.2))))
def spec_l1Cur_row.f (k : Nat) (s0_0 : List Int) (s0_1 : Int) (s0_2 : Int) : Option (List Int × Int × Int) := (spec_l1Cur_pick.f s0_0 s0_1 s0_2 14).bind fun bt451 => (if bt451.1 = 0 then ((spec_l1Cur_pick.f s0_0 bt451.2.1 bt451.2.2 2).bind fun bt454 => ((spec_l1Cur_surePairs.f k s0_0 bt454.2.1 bt454.2.2 bt454.1).bind fun bt457 => ((spec_l1Cur_among.f s0_0 bt457.2.1 bt457.2.2 (([(-1), 1, 20, 21, 4611686018427387904] : List Int))).bind fun bt465 => (if bt457.1.length < 17592186044416 then (some ((bt457.1 ++ [bt465.1]), bt465.2.1, bt465.2.2)) else (none))))) else (if bt451.1 = 1 then ((spec_l1Cur_pick.f s0_0 bt451.2.1 bt451.2.2 2).bind fun bt471 => (if 0 ≤ (wrap64 (40 + bt471.1)) then (if (wrap64 (40 + bt471.1) : Int).toNat ≤ 35184372088832 then (some ((List.replicate (wrap64 (40 + bt471.1) : Int).toNat 0), bt471.2.1, bt471.2.2)) else (none)) else (none))) else (if bt451.1 = 2 then (spec_l1Cur_row.j0 k (bt451.1 == 2) s0_0 bt451.2.1 bt451.2.2) else (if bt451.1 = 3 then (spec_l1Cur_row.j0 k (bt451.1 == 3) s0_0 bt451.2.1 bt451.2.2) else (spec_l1Cur_row.j0 k (bt451.1 == 4) s0_0 bt451.2.1 bt451.2.2)))))
theorem spec_l1Cur_row.mono_l : ∀ k, (∀ y0 y1 y2 y3, LeO (spec_l1Cur_row.j0 k y0 y1 y2 y3) (spec_l1Cur_row.j0 (k + 1) y0 y1 y2 y3))
 | 0 => fun _ _ _ _ r h => by simp [spec_l1Cur_row.j0] at h
 | k + 1 => by
  have ih0 := spec_l1Cur_row.mono_l k
  ·intro y0 y1 y2 y3
   unfold spec_l1Cur_row.j0
   repeat' (first | (with_reducible first | exact spec_l1Cur_surePairs.mono _ _ _ _ _ | exact spec_roBack.mono _ _ | exact LeO.refl _ | exact LeO.none _ | refine LeO.ite ?_ ?_ | refine LeO.bind ?_ (fun _ => ?_)) | exact spec_l1Cur_surePairs.mono _ _ _ _ _ | exact spec_roBack.mono _ _ | exact LeO.none _ | refine LeO.ite ?_ ?_ | refine LeO.bind ?_ (fun _ => ?_))
theorem spec_l1Cur_row.mono : ∀ a0 a1 a2 k, LeO (spec_l1Cur_row.f k a0 a1 a2) (spec_l1Cur_row.f (k + 1) a0 a1 a2) := by
 intro a0 a1 a2 k
 have ih0 := spec_l1Cur_row.mono_l k
 unfold spec_l1Cur_row.f
 repeat' (first | (with_reducible first | exact ih0 _ _ _ _ | exact spec_l1Cur_surePairs.mono _ _ _ _ _ | exact LeO.refl _ | exact LeO.none _ | refine LeO.ite ?_ ?_ | refine LeO.bind ?_ (fun _ => ?_)) | exact ih0 _ _ _ _ | exact spec_l1Cur_surePairs.mono _ _ _ _ _ | exact LeO.none _ | refine LeO.ite ?_ ?_ | refine LeO.bind ?_ (fun _ => ?_))
set_option maxHeartbeats 8000000 in
set_option maxRecDepth 100000 in
theorem spec_l1Cur_row.calls (k : Nat) (g : Nat) (s0_0 : List Int) (s0_1 : Int) (s0_2 : Int) (r1 : List Int) (r2 : Int) (r3 : Int) (w0 w : World) (hI : IsS108 w0 w g s0_0 s0_1 s0_2) (hB : Below w0.heap.size w0 w) (h : spec_l1Cur_row.f k s0_0 s0_1 s0_2 = some (r1, r2, r3)) :
  Calls Try.prog 188 #[.pointer (some ⟨g, 0, none⟩)] w fun e w' => ∃ v0_ : Value, e = .returned (v0_) ∧ Kd.R (Kd.int .i64) 3 w' w.heap.size (fun _ => True) v0_ r1 ∧ IsS108 w0 w' g s0_0 r2 r3 ∧ Below w0.heap.size w0 w' ∧ KeepBut w w' g none := by
 have HI0 := Aside0.mk hI
 have HK := Aside0.mk (KeepBut.refl w g none)
 have HL := Aside0.mk hB.size
 clear hI
 have HW0 := Aside0.mk hB.size
 have HB := Aside0.mk hB
 clear hB
 have H := h
 unfold spec_l1Cur_row.f at H
 clear h
 replace H := Option.bind_eq_some_iff.mp H
 obtain ⟨⟨t451, t452, t453⟩, A20, H⟩ := H
 replace H : (if t451 = 0 then ((spec_l1Cur_pick.f s0_0 t452 t453 2).bind fun bt454 => ((spec_l1Cur_surePairs.f k s0_0 bt454.2.1 bt454.2.2 bt454.1).bind fun bt457 => ((spec_l1Cur_among.f s0_0 bt457.2.1 bt457.2.2 (([(-1), 1, 20, 21, 4611686018427387904] : List Int))).bind fun bt465 => (if bt457.1.length < 17592186044416 then (some ((bt457.1 ++ [bt465.1]), bt465.2.1, bt465.2.2)) else (none))))) else (if t451 = 1 then ((spec_l1Cur_pick.f s0_0 t452 t453 2).bind fun bt471 => (if 0 ≤ (wrap64 (40 + bt471.1)) then (if (wrap64 (40 + bt471.1) : Int).toNat ≤ 35184372088832 then (some ((List.replicate (wrap64 (40 + bt471.1) : Int).toNat 0), bt471.2.1, bt471.2.2)) else (none)) else (none))) else (if t451 = 2 then (spec_l1Cur_row.j0 k (t451 == 2) s0_0 t452 t453) else (if t451 = 3 then (spec_l1Cur_row.j0 k (t451 == 3) s0_0 t452 t453) else (spec_l1Cur_row.j0 k (t451 == 4) s0_0 t452 t453))))) = some (r1, r2, r3) := H
 have A2 := Aside0.mk A20
 clear A20
 by_cases c3 : t451 = 0
 ·rw [if_pos c3] at H
  have c3b0 : (t451 == 0) = true := beq_iff_eq.mpr c3
  have c3b1 : (t451 != 0) = false := bne_eq_false_iff_eq.mpr c3
  clear c3
  replace H := Option.bind_eq_some_iff.mp H
  obtain ⟨⟨t454, t455, t456⟩, A40, H⟩ := H
  replace H : ((spec_l1Cur_surePairs.f k s0_0 t455 t456 t454).bind fun bt457 => ((spec_l1Cur_among.f s0_0 bt457.2.1 bt457.2.2 (([(-1), 1, 20, 21, 4611686018427387904] : List Int))).bind fun bt465 => (if bt457.1.length < 17592186044416 then (some ((bt457.1 ++ [bt465.1]), bt465.2.1, bt465.2.2)) else (none)))) = some (r1, r2, r3) := H
  have A4 := Aside0.mk A40
  clear A40
  replace H := Option.bind_eq_some_iff.mp H
  obtain ⟨⟨t457, t460, t461⟩, A50, H⟩ := H
  replace H : ((spec_l1Cur_among.f s0_0 t460 t461 (([(-1), 1, 20, 21, 4611686018427387904] : List Int))).bind fun bt465 => (if t457.length < 17592186044416 then (some ((t457 ++ [bt465.1]), bt465.2.1, bt465.2.2)) else (none))) = some (r1, r2, r3) := H
  have A5 := Aside0.mk A50
  clear A50
  obtain ⟨y462, hy462⟩ : ∃ y_ : List Int, y_ = (([(-1), 1, 20, 21, 4611686018427387904] : List Int)) := ⟨_, rfl⟩
  replace H : ((spec_l1Cur_among.f s0_0 t460 t461 y462).bind fun bt465 => (if t457.length < 17592186044416 then (some ((t457 ++ [bt465.1]), bt465.2.1, bt465.2.2)) else (none))) = some (r1, r2, r3) := by first | (rw [hy462]; with_reducible exact H) | (have H2_ := (Option.bind_some _ _).symm.trans H; rw [hy462]; with_reducible exact H2_) | (have H2_ := (Option.bind_some _ _).symm.trans H; with_reducible exact H2_) | with_reducible exact H | (rw [hy462]; exact H) | exact H
  have Ny462 := Aside0.mk hy462
  clear hy462
  replace H := Option.bind_eq_some_iff.mp H
  obtain ⟨⟨t465, t466, t467⟩, A60, H⟩ := H
  replace H : (if t457.length < 17592186044416 then (some ((t457 ++ [t465]), t466, t467)) else (none)) = some (r1, r2, r3) := H
  have A6 := Aside0.mk A60
  clear A60
  by_cases c7 : t457.length < 17592186044416
  ·rw [if_pos c7] at H
   have LMc7 := Aside0.mk c7
   clear c7
   obtain ⟨y468, hy468⟩ : ∃ y_ : List Int, y_ = (t457 ++ [t465]) := ⟨_, rfl⟩
   replace H : (some (y468, t466, t467)) = some (r1, r2, r3) := by first | (rw [hy468]; with_reducible exact H) | (have H2_ := (Option.bind_some _ _).symm.trans H; rw [hy468]; with_reducible exact H2_) | (have H2_ := (Option.bind_some _ _).symm.trans H; with_reducible exact H2_) | with_reducible exact H | (rw [hy468]; exact H) | exact H
   have Ny468 := Aside0.mk hy468
   clear hy468
   simp only [Option.some.injEq, Prod.mk.injEq] at H
   obtain ⟨rfl, rfl, rfl⟩ := H
   go_enter Try.func188, Try.ntmps188
   go_wp2_with (first | ((with_reducible refine gate_callee (f := 171) rfl ?_); refine goesA (some 7) Try.func171 #[.pointer (some ⟨g, 0, none⟩), .int .i64 14] ?_; (with_reducible refine (spec_l1Cur_pick.calls g s0_0 s0_1 s0_2 14 t451 t452 t453 w0 _ ?side1 ?side2 A2.out).mono ?_); (case side1 => exact IsS108.at HI0); (case side2 => exact atB HB); rintro e w8 ⟨rfl, hi, hb, hk⟩; refine ⟨_, rfl, ?_⟩; replace HK := upK HK hk; replace HB := Aside0.mk (hb); replace HI0 := Aside0.mk (hi); (try clear hb); (try clear hb2); (try clear hk); (try clear hi)) | ((with_reducible refine gate_callee (f := 171) rfl ?_); refine goesA (some 12) Try.func171 #[.pointer (some ⟨g, 0, none⟩), .int .i64 2] ?_; (with_reducible refine (spec_l1Cur_pick.calls g s0_0 t452 t453 2 t454 t455 t456 w0 _ ?side1 ?side2 A4.out).mono ?_); (case side1 => exact IsS108.at HI0); (case side2 => exact atB HB); rintro e w9 ⟨rfl, hi, hb, hk⟩; refine ⟨_, rfl, ?_⟩; replace HK := upK HK hk; replace HB := Aside0.mk (hb); replace HI0 := Aside0.mk (hi); (try clear hb); (try clear hb2); (try clear hk); (try clear hi)) | ((with_reducible refine gate_callee (f := 231) rfl ?_); refine goesA (some 13) Try.func231 #[.pointer (some ⟨g, 0, none⟩), .int .i64 t454] ?_; (with_reducible refine (spec_l1Cur_surePairs.calls k g s0_0 t455 t456 t454 t457 t460 t461 w0 _ ?side1 ?side2 A5.out).mono ?_); (case side1 => exact IsS108.at HI0); (case side2 => exact atB HB); rintro e w10 ⟨v458, rfl, ho0, hi, hb, hk⟩; refine ⟨_, rfl, ?_⟩; have HO459 := lowKR ho0 HK; replace HK := upK HK hk; replace HB := Aside0.mk (hb); replace HI0 := Aside0.mk (hi); (try clear hb); (try clear hb2); (try clear hk); (try clear hi); (try clear ho0)) | ((with_reducible refine gate_dst (N := 16) rfl ?_); refine Kd.R_lit (Kd.int .i64) _ 3 ?hg (N := 16) ?hd (xs := ([(-1), 1, 20, 21, 4611686018427387904] : List Int)) (inner := [.int .i64 (-1), .int .i64 1, .int .i64 20, .int .i64 21, .int .i64 4611686018427387904]) (ok := fun _ => True) (okp := fun _ => True) ?hr ?hp (fun _ hk => hk) trivial (Below.refl _ _) (Nat.le_refl _) (by simp) ?_; (case hd => rfl); (case hg => rfl); (case hr => first | (go_simp; done) | (go_simp; rfl)); (case hp => exact repsI _); intro v463 w11 ho12 hb hg_ hnew_; clear hg_ hnew_; (first | rw [← Ny462.out] at ho12 | (simp only [Int.reduceToNat] at ho12; rw [← Ny462.out] at ho12)); have HO464 := Aside0.mk (Kd.R_lower (Kd.R_new' ho12 (ltR HO459)) (szK HK)); replace HO459 := eldRR HO459 ho12 hb; replace HI0 := IsS108.up HI0 hb; replace HK := upKB HK hb; replace HB := upB HB hb; clear hb ho12; obtain ⟨Ao13, co13, eo13⟩ := Kd.R_slice HO464.out; subst eo13) | ((with_reducible refine gate_callee (f := 191) rfl ?_); refine goesA (some 17) Try.func191 #[.pointer (some ⟨g, 0, none⟩), .slice Ao13 y462.length co13] ?_; (with_reducible refine (spec_l1Cur_among.calls g s0_0 t460 t461 _ _ y462 t465 t466 t467 w0 _ ?side1 ?side2 ?side3 ?side4 ?side5 A6.out).mono ?_); (case side1 => exact IsS108.at HI0); (case side2 => exact atB HB); (case side3 => exact atRC HO464); (case side4 => exact (Kd.R_reads' HO464.out).2.1); (case side5 => exact far_slice (IsS108.own_ne HI0.out HO464.out (by decide))); rintro e w14 ⟨rfl, hi, hb, hk⟩; refine ⟨_, rfl, ?_⟩; replace HO459 := IsS108.keepR HI0 HO459 hk; replace HO464 := IsS108.keepR HI0 HO464 hk; replace HK := upK HK hk; replace HB := Aside0.mk (hb); replace HI0 := Aside0.mk (hi); (try clear hb); (try clear hb2); (try clear hk); (try clear hi)) | ((with_reducible refine gate_builtin (b := .append) (xs := #[.tmp 14, .tmp 18]) rfl ?_); at_builtin; refine Kd.R_append (Kd.int .i64) w.heap.size rfl (.tmp 14) (.tmp 18) 31 3 (.int .i64 0) 8 rfl Try.underlying31 info3 rfl (by decide) (by omega) v458 t457 t465 [.int .i64 t465] (fun k_ => some k_ ≠ (.slice Ao13 y462.length co13 : Value).ownBlock) (fun _ => False) rfl rfl ?aP (fun _ hk => hk.elim) ?aF ?aO (Below.refl _ _) ?aS ?aL ?_; (case aP => exact rfl); (case aF => exact (fun k_ hk => Kd.fresh' (ltR HO464) k_ hk)); (case aO => exact (by (with_reducible repeat (first | apply Kd.R_alloc | apply Kd.R_drewN | apply Kd.R_drew)); exact Kd.R_mono HO459.out (fun _ hk => hk.2))); (case aS => exact (szK HK)); (case aL => have := LMc7.out; omega); intro v469 w15 ho hb hg hat; rw [← Ny468.out] at ho; have HO470 := Aside0.mk (ho); replace HI0 := Aside0.mk (IsS108.grown (IsS108.at HI0) hg (IsS108.own_ne HI0.out HO459.out (by decide))); replace HO464 := Aside0.mk (Kd.R_after (ok := (fun _ => True)) (atR HO464) hg hat); replace HB := Aside0.mk (below_weaken (atB HB) HL.out hb); replace HK := Aside0.mk (KeepBut.trans (atK HK) (KeepBut.of_grown hg g) (Kd.R_base2 HO459.out)); clear HO459; clear ho hb hg hat))
   go_ret
   exact ⟨_, eqr, by (with_reducible repeat (first | apply Kd.R_alloc | apply Kd.R_drewN | apply Kd.R_drew)); exact Kd.R_mono HO470.out (fun _ hk => trivial), IsS108.at HI0, atB HB, atK HK⟩
  ·rw [if_neg c7] at H
   exact absurd H (by simp)
 ·rw [if_neg c3] at H
  have c3b0 : (t451 == 0) = false := beq_eq_false_iff_ne.mpr c3
  have c3b1 : (t451 != 0) = true := bne_iff_ne.mpr c3
  by_cases c16 : t451 = 1
  ·rw [if_pos c16] at H
   have c16b0 : (t451 == 1) = true := beq_iff_eq.mpr c16
   have c16b1 : (t451 != 1) = false := bne_eq_false_iff_eq.mpr c16
   clear c16
   replace H := Option.bind_eq_some_iff.mp H
   obtain ⟨⟨t471, t472, t473⟩, A170, H⟩ := H
   replace H : (if 0 ≤ (wrap64 (40 + t471)) then (if (wrap64 (40 + t471) : Int).toNat ≤ 35184372088832 then (some ((List.replicate (wrap64 (40 + t471) : Int).toNat 0), t472, t473)) else (none)) else (none)) = some (r1, r2, r3) := H
   have A17 := Aside0.mk A170
   clear A170
   obtain ⟨ji18, hji18⟩ : ∃ j_ : Int, (wrap64 (40 + t471)) = j_ := ⟨_, rfl⟩
   replace H : (if 0 ≤ (ji18) then (if (ji18 : Int).toNat ≤ 35184372088832 then (some ((List.replicate (ji18 : Int).toNat 0), t472, t473)) else (none)) else (none)) = some (r1, r2, r3) := by first | (rw [hji18] at H; exact H) | (simp only [hji18] at H ⊢; exact H)
   (try rw [hji18] at A2)
   (try rw [hji18] at A17)
   have hji18w : (IntKind.i64.wrap (40 + t471)) = ji18 := (i64_w _).trans hji18
   by_cases c19 : 0 ≤ (ji18)
   ·rw [if_pos c19] at H
    have c19b0 := eq_true c19
    have c19b1 : decide (0 ≤ (ji18)) = true := decide_eq_true c19
    clear c19
    by_cases c20 : (ji18 : Int).toNat ≤ 35184372088832
    ·rw [if_pos c20] at H
     have c20b0 := eq_true c20
     have c20b1 : decide ((ji18 : Int).toNat ≤ 35184372088832) = true := decide_eq_true c20
     clear c20
     obtain ⟨y474, hy474⟩ : ∃ y_ : List Int, y_ = (List.replicate (ji18 : Int).toNat 0) := ⟨_, rfl⟩
     replace H : (some (y474, t472, t473)) = some (r1, r2, r3) := by first | (rw [hy474]; with_reducible exact H) | (have H2_ := (Option.bind_some _ _).symm.trans H; rw [hy474]; with_reducible exact H2_) | (have H2_ := (Option.bind_some _ _).symm.trans H; with_reducible exact H2_) | with_reducible exact H | (rw [hy474]; exact H) | exact H
     have Ny474 := Aside0.mk hy474
     clear hy474
     simp only [Option.some.injEq, Prod.mk.injEq] at H
     obtain ⟨rfl, rfl, rfl⟩ := H
     go_enter Try.func188, Try.ntmps188
     go_wp2_with (first | ((with_reducible refine gate_callee (f := 171) rfl ?_); refine goesA (some 7) Try.func171 #[.pointer (some ⟨g, 0, none⟩), .int .i64 14] ?_; (with_reducible refine (spec_l1Cur_pick.calls g s0_0 s0_1 s0_2 14 t451 t452 t453 w0 _ ?side1 ?side2 A2.out).mono ?_); (case side1 => exact IsS108.at HI0); (case side2 => exact atB HB); rintro e w21 ⟨rfl, hi, hb, hk⟩; refine ⟨_, rfl, ?_⟩; replace HK := upK HK hk; replace HB := Aside0.mk (hb); replace HI0 := Aside0.mk (hi); (try clear hb); (try clear hb2); (try clear hk); (try clear hi)) | ((with_reducible refine gate_callee (f := 171) rfl ?_); refine goesA (some 23) Try.func171 #[.pointer (some ⟨g, 0, none⟩), .int .i64 2] ?_; (with_reducible refine (spec_l1Cur_pick.calls g s0_0 t452 t453 2 t471 t472 t473 w0 _ ?side1 ?side2 A17.out).mono ?_); (case side1 => exact IsS108.at HI0); (case side2 => exact atB HB); rintro e w22 ⟨rfl, hi, hb, hk⟩; refine ⟨_, rfl, ?_⟩; replace HK := upK HK hk; replace HB := Aside0.mk (hb); replace HI0 := Aside0.mk (hi); (try clear hb); (try clear hb2); (try clear hk); (try clear hi)) | ((with_reducible refine gate_dst (N := 25) rfl ?_); refine Kd.R_make (Kd.int .i64) _ 3 rfl (N := 25) rfl 31 _ _ rfl ji18 rfl rfl Try.underlying31 (.int .i64 0) 8 info3 rfl (by decide) (by omega) 0 (ok := fun _ => True) (okp := fun _ => True) rfl (fun _ hk => hk) trivial (of_decide_eq_true (by first | (with_reducible assumption) | assumption)) (Nat.le_trans (Nat.mul_le_mul_right _ (of_decide_eq_true (by first | (with_reducible assumption) | assumption) : ji18.toNat ≤ 35184372088832)) (by omega)) (Below.refl _ _) (Nat.le_refl _) ?_; intro v475 w23 ho24 hb hg_ hnew_; clear hg_ hnew_; (first | rw [← Ny474.out] at ho24 | (simp only [Int.reduceToNat] at ho24; rw [← Ny474.out] at ho24)); have HO476 := lowKR ho24 HK; replace HI0 := IsS108.up HI0 hb; replace HK := upKB HK hb; replace HB := upB HB hb; clear hb ho24))
     go_ret
     exact ⟨_, by first | rfl | (simp [errW_none, errW_some] <;> rfl) | (simp only [← hji18]; first | rfl | (simp [errW_none, errW_some] <;> rfl)) | (simp [*, errW_none, errW_some] <;> rfl), atR HO476, IsS108.at HI0, atB HB, atK HK⟩
    ·rw [if_neg c20] at H
     exact absurd H (by simp)
   ·rw [if_neg c19] at H
    exact absurd H (by simp)
  ·rw [if_neg c16] at H
   have c16b0 : (t451 == 1) = false := beq_eq_false_iff_ne.mpr c16
   have c16b1 : (t451 != 1) = true := bne_iff_ne.mpr c16
   have HC25 := Aside0.mk H
   clear H
   go_enter Try.func188, Try.ntmps188
   go_upto_if 26 with (first | ((with_reducible refine gate_callee (f := 171) rfl ?_); refine goesA (some 7) Try.func171 #[.pointer (some ⟨g, 0, none⟩), .int .i64 14] ?_; (with_reducible refine (spec_l1Cur_pick.calls g s0_0 s0_1 s0_2 14 t451 t452 t453 w0 _ ?side1 ?side2 A2.out).mono ?_); (case side1 => exact IsS108.at HI0); (case side2 => exact atB HB); rintro e w26 ⟨rfl, hi, hb, hk⟩; refine ⟨_, rfl, ?_⟩; replace HK := upK HK hk; replace HB := Aside0.mk (hb); replace HI0 := Aside0.mk (hi); (try clear hb); (try clear hb2); (try clear hk); (try clear hi)))
   (try simp only [Act.put, List.setIfInBounds_toArray, List.set_cons_zero, List.set_cons_succ])
   go_cut [26] (fun v26 wc => ∃ (kq : Nat) (x26_24 : Bool), v26 = .bool x26_24 ∧ Aside0 (spec_l1Cur_row.j0 kq x26_24 s0_0 t452 t453 = some (r1, r2, r3)) ∧ Aside0 (kq ≤ k) ∧ Aside0 (IsS108 w0 wc g s0_0 t452 t453) ∧ Aside0 (KeepBut w wc g none) ∧ Aside0 (Below w0.heap.size w0 wc))
   case first =>
    have H := HC25.out
    clear HC25
    by_cases c27 : t451 = 2
    ·rw [if_pos c27] at H
     have c27b0 : (t451 == 2) = true := beq_iff_eq.mpr c27
     have c27b1 : (t451 != 2) = false := bne_eq_false_iff_eq.mpr c27
     clear c27
     (first | rw [c27b0] | (simp only [i64_w, i32_w]; rw [c27b0]) | skip)
     have H' := Aside0.mk H
     clear H
     go_wp2
     go_meet
     case rel => exact ⟨_, ((t451 == 2)), eqd, H', ⟨leD⟩, ⟨IsS108.at HI0⟩, ⟨atK HK⟩, ⟨atB HB⟩⟩
    ·rw [if_neg c27] at H
     have c27b0 : (t451 == 2) = false := beq_eq_false_iff_ne.mpr c27
     have c27b1 : (t451 != 2) = true := bne_iff_ne.mpr c27
     (first | rw [c27b0] | (simp only [i64_w, i32_w]; rw [c27b0]) | skip)
     by_cases c28 : t451 = 3
     ·rw [if_pos c28] at H
      have c28b0 : (t451 == 3) = true := beq_iff_eq.mpr c28
      have c28b1 : (t451 != 3) = false := bne_eq_false_iff_eq.mpr c28
      clear c28
      have H' := Aside0.mk H
      clear H
      go_wp2
      go_meet
      case rel => exact ⟨_, ((t451 == 3)), eqd, H', ⟨leD⟩, ⟨IsS108.at HI0⟩, ⟨atK HK⟩, ⟨atB HB⟩⟩
     ·rw [if_neg c28] at H
      have c28b0 : (t451 == 3) = false := beq_eq_false_iff_ne.mpr c28
      have c28b1 : (t451 != 3) = true := bne_iff_ne.mpr c28
      have H' := Aside0.mk H
      clear H
      go_wp2
      go_meet
      case rel => exact ⟨_, ((t451 == 4)), eqd, H', ⟨leD⟩, ⟨IsS108.at HI0⟩, ⟨atK HK⟩, ⟨atB HB⟩⟩
   case rest =>
    clear HC25
    try clear c1
    try clear c2
    try clear p2
    try clear c3
    try clear c3b0
    try clear c3b1
    try clear p6
    try clear c7
    try clear c16
    try clear c16b0
    try clear c16b1
    try clear c17
    try clear c18
    try clear c19
    try clear c19b0
    try clear c19b1
    try clear c20
    try clear c20b0
    try clear c20b1
    try clear c23
    try clear c27
    try clear c27b0
    try clear c27b1
    try clear c28
    try clear c28b0
    try clear c28b1
    obtain ⟨kq, x26_24, rfl, HA, HJ24, HI0, HK, HB⟩ := hcut
    cases kq with
    | zero => exact absurd HA.out (by simp [spec_l1Cur_row.j0])
    | succ kj24 =>
     have H := HA.out
     clear HA
     simp only [spec_l1Cur_row.j0] at H
     by_cases c29 : x26_24 = true
     ·subst c29
      have H1 : ((some (([(([1, 1] : List Int)), (([3, 1, 2, 1, 3, 2] : List Int)), (([1, 1, 2, 0, 2] : List Int)), (([4, 2, 3, 2, 4, 3, 1, 1] : List Int)), (([2, 3, 4, 2, 1, 3, 1, 4] : List Int)), (([4, 1, 3, 1, 2, 4, 3, 2] : List Int)), (([3, 1, 1, 3, 2, 0, 2] : List Int)), (([5, 2, 4, 2, 3, 5, 4, 3, 1, 1] : List Int)), (([2, 3, 2, 0, 3] : List Int))] : List (List Int)) : List (List Int))).bind fun y504 => ((spec_l1Cur_pick.f s0_0 t452 t453 (y504.length : Int)).bind fun bt507 => (if 0 ≤ bt507.1 then (if bt507.1 < (y504.length : Int) then ((spec_l1Own.f (rd_L2 y504 bt507.1)).bind fun t511 => ((spec_l1Cur_one.f s0_0 bt507.2.1 bt507.2.2 3).bind fun bt514 => (if bt514.1 = true then ((spec_roBack.f kj24 t511).bind fun t517 => (some (t517, bt514.2.1, bt514.2.2))) else (some (t511, bt514.2.1, bt514.2.2))))) else (none)) else (none)))) = some (r1, r2, r3) := by rw [if_pos rfl] at H; exact H
      clear H
      have H := H1
      clear H1
      obtain ⟨y477, hy477⟩ : ∃ y_ : List Int, y_ = (([1, 1] : List Int)) := ⟨_, rfl⟩
      replace H : ((some (([y477, (([3, 1, 2, 1, 3, 2] : List Int)), (([1, 1, 2, 0, 2] : List Int)), (([4, 2, 3, 2, 4, 3, 1, 1] : List Int)), (([2, 3, 4, 2, 1, 3, 1, 4] : List Int)), (([4, 1, 3, 1, 2, 4, 3, 2] : List Int)), (([3, 1, 1, 3, 2, 0, 2] : List Int)), (([5, 2, 4, 2, 3, 5, 4, 3, 1, 1] : List Int)), (([2, 3, 2, 0, 3] : List Int))] : List (List Int)) : List (List Int))).bind fun y504 => ((spec_l1Cur_pick.f s0_0 t452 t453 (y504.length : Int)).bind fun bt507 => (if 0 ≤ bt507.1 then (if bt507.1 < (y504.length : Int) then ((spec_l1Own.f (rd_L2 y504 bt507.1)).bind fun t511 => ((spec_l1Cur_one.f s0_0 bt507.2.1 bt507.2.2 3).bind fun bt514 => (if bt514.1 = true then ((spec_roBack.f kj24 t511).bind fun t517 => (some (t517, bt514.2.1, bt514.2.2))) else (some (t511, bt514.2.1, bt514.2.2))))) else (none)) else (none)))) = some (r1, r2, r3) := by first | (rw [hy477]; with_reducible exact H) | (have H2_ := (Option.bind_some _ _).symm.trans H; rw [hy477]; with_reducible exact H2_) | (have H2_ := (Option.bind_some _ _).symm.trans H; with_reducible exact H2_) | with_reducible exact H | (rw [hy477]; exact H) | exact H
      have Ny477 := Aside0.mk hy477
      clear hy477
      obtain ⟨y480, hy480⟩ : ∃ y_ : List Int, y_ = (([3, 1, 2, 1, 3, 2] : List Int)) := ⟨_, rfl⟩
      replace H : ((some (([y477, y480, (([1, 1, 2, 0, 2] : List Int)), (([4, 2, 3, 2, 4, 3, 1, 1] : List Int)), (([2, 3, 4, 2, 1, 3, 1, 4] : List Int)), (([4, 1, 3, 1, 2, 4, 3, 2] : List Int)), (([3, 1, 1, 3, 2, 0, 2] : List Int)), (([5, 2, 4, 2, 3, 5, 4, 3, 1, 1] : List Int)), (([2, 3, 2, 0, 3] : List Int))] : List (List Int)) : List (List Int))).bind fun y504 => ((spec_l1Cur_pick.f s0_0 t452 t453 (y504.length : Int)).bind fun bt507 => (if 0 ≤ bt507.1 then (if bt507.1 < (y504.length : Int) then ((spec_l1Own.f (rd_L2 y504 bt507.1)).bind fun t511 => ((spec_l1Cur_one.f s0_0 bt507.2.1 bt507.2.2 3).bind fun bt514 => (if bt514.1 = true then ((spec_roBack.f kj24 t511).bind fun t517 => (some (t517, bt514.2.1, bt514.2.2))) else (some (t511, bt514.2.1, bt514.2.2))))) else (none)) else (none)))) = some (r1, r2, r3) := by first | (rw [hy480]; with_reducible exact H) | (have H2_ := (Option.bind_some _ _).symm.trans H; rw [hy480]; with_reducible exact H2_) | (have H2_ := (Option.bind_some _ _).symm.trans H; with_reducible exact H2_) | with_reducible exact H | (rw [hy480]; exact H) | exact H
      have Ny480 := Aside0.mk hy480
      clear hy480
      obtain ⟨y483, hy483⟩ : ∃ y_ : List Int, y_ = (([1, 1, 2, 0, 2] : List Int)) := ⟨_, rfl⟩
      replace H : ((some (([y477, y480, y483, (([4, 2, 3, 2, 4, 3, 1, 1] : List Int)), (([2, 3, 4, 2, 1, 3, 1, 4] : List Int)), (([4, 1, 3, 1, 2, 4, 3, 2] : List Int)), (([3, 1, 1, 3, 2, 0, 2] : List Int)), (([5, 2, 4, 2, 3, 5, 4, 3, 1, 1] : List Int)), (([2, 3, 2, 0, 3] : List Int))] : List (List Int)) : List (List Int))).bind fun y504 => ((spec_l1Cur_pick.f s0_0 t452 t453 (y504.length : Int)).bind fun bt507 => (if 0 ≤ bt507.1 then (if bt507.1 < (y504.length : Int) then ((spec_l1Own.f (rd_L2 y504 bt507.1)).bind fun t511 => ((spec_l1Cur_one.f s0_0 bt507.2.1 bt507.2.2 3).bind fun bt514 => (if bt514.1 = true then ((spec_roBack.f kj24 t511).bind fun t517 => (some (t517, bt514.2.1, bt514.2.2))) else (some (t511, bt514.2.1, bt514.2.2))))) else (none)) else (none)))) = some (r1, r2, r3) := by first | (rw [hy483]; with_reducible exact H) | (have H2_ := (Option.bind_some _ _).symm.trans H; rw [hy483]; with_reducible exact H2_) | (have H2_ := (Option.bind_some _ _).symm.trans H; with_reducible exact H2_) | with_reducible exact H | (rw [hy483]; exact H) | exact H
      have Ny483 := Aside0.mk hy483
      clear hy483
      obtain ⟨y486, hy486⟩ : ∃ y_ : List Int, y_ = (([4, 2, 3, 2, 4, 3, 1, 1] : List Int)) := ⟨_, rfl⟩
      replace H : ((some (([y477, y480, y483, y486, (([2, 3, 4, 2, 1, 3, 1, 4] : List Int)), (([4, 1, 3, 1, 2, 4, 3, 2] : List Int)), (([3, 1, 1, 3, 2, 0, 2] : List Int)), (([5, 2, 4, 2, 3, 5, 4, 3, 1, 1] : List Int)), (([2, 3, 2, 0, 3] : List Int))] : List (List Int)) : List (List Int))).bind fun y504 => ((spec_l1Cur_pick.f s0_0 t452 t453 (y504.length : Int)).bind fun bt507 => (if 0 ≤ bt507.1 then (if bt507.1 < (y504.length : Int) then ((spec_l1Own.f (rd_L2 y504 bt507.1)).bind fun t511 => ((spec_l1Cur_one.f s0_0 bt507.2.1 bt507.2.2 3).bind fun bt514 => (if bt514.1 = true then ((spec_roBack.f kj24 t511).bind fun t517 => (some (t517, bt514.2.1, bt514.2.2))) else (some (t511, bt514.2.1, bt514.2.2))))) else (none)) else (none)))) = some (r1, r2, r3) := by first | (rw [hy486]; with_reducible exact H) | (have H2_ := (Option.bind_some _ _).symm.trans H; rw [hy486]; with_reducible exact H2_) | (have H2_ := (Option.bind_some _ _).symm.trans H; with_reducible exact H2_) | with_reducible exact H | (rw [hy486]; exact H) | exact H
      have Ny486 := Aside0.mk hy486
      clear hy486
      obtain ⟨y489, hy489⟩ : ∃ y_ : List Int, y_ = (([2, 3, 4, 2, 1, 3, 1, 4] : List Int)) := ⟨_, rfl⟩
      replace H : ((some (([y477, y480, y483, y486, y489, (([4, 1, 3, 1, 2, 4, 3, 2] : List Int)), (([3, 1, 1, 3, 2, 0, 2] : List Int)), (([5, 2, 4, 2, 3, 5, 4, 3, 1, 1] : List Int)), (([2, 3, 2, 0, 3] : List Int))] : List (List Int)) : List (List Int))).bind fun y504 => ((spec_l1Cur_pick.f s0_0 t452 t453 (y504.length : Int)).bind fun bt507 => (if 0 ≤ bt507.1 then (if bt507.1 < (y504.length : Int) then ((spec_l1Own.f (rd_L2 y504 bt507.1)).bind fun t511 => ((spec_l1Cur_one.f s0_0 bt507.2.1 bt507.2.2 3).bind fun bt514 => (if bt514.1 = true then ((spec_roBack.f kj24 t511).bind fun t517 => (some (t517, bt514.2.1, bt514.2.2))) else (some (t511, bt514.2.1, bt514.2.2))))) else (none)) else (none)))) = some (r1, r2, r3) := by first | (rw [hy489]; with_reducible exact H) | (have H2_ := (Option.bind_some _ _).symm.trans H; rw [hy489]; with_reducible exact H2_) | (have H2_ := (Option.bind_some _ _).symm.trans H; with_reducible exact H2_) | with_reducible exact H | (rw [hy489]; exact H) | exact H
      have Ny489 := Aside0.mk hy489
      clear hy489
      obtain ⟨y492, hy492⟩ : ∃ y_ : List Int, y_ = (([4, 1, 3, 1, 2, 4, 3, 2] : List Int)) := ⟨_, rfl⟩
      replace H : ((some (([y477, y480, y483, y486, y489, y492, (([3, 1, 1, 3, 2, 0, 2] : List Int)), (([5, 2, 4, 2, 3, 5, 4, 3, 1, 1] : List Int)), (([2, 3, 2, 0, 3] : List Int))] : List (List Int)) : List (List Int))).bind fun y504 => ((spec_l1Cur_pick.f s0_0 t452 t453 (y504.length : Int)).bind fun bt507 => (if 0 ≤ bt507.1 then (if bt507.1 < (y504.length : Int) then ((spec_l1Own.f (rd_L2 y504 bt507.1)).bind fun t511 => ((spec_l1Cur_one.f s0_0 bt507.2.1 bt507.2.2 3).bind fun bt514 => (if bt514.1 = true then ((spec_roBack.f kj24 t511).bind fun t517 => (some (t517, bt514.2.1, bt514.2.2))) else (some (t511, bt514.2.1, bt514.2.2))))) else (none)) else (none)))) = some (r1, r2, r3) := by first | (rw [hy492]; with_reducible exact H) | (have H2_ := (Option.bind_some _ _).symm.trans H; rw [hy492]; with_reducible exact H2_) | (have H2_ := (Option.bind_some _ _).symm.trans H; with_reducible exact H2_) | with_reducible exact H | (rw [hy492]; exact H) | exact H
      have Ny492 := Aside0.mk hy492
      clear hy492
      obtain ⟨y495, hy495⟩ : ∃ y_ : List Int, y_ = (([3, 1, 1, 3, 2, 0, 2] : List Int)) := ⟨_, rfl⟩
      replace H : ((some (([y477, y480, y483, y486, y489, y492, y495, (([5, 2, 4, 2, 3, 5, 4, 3, 1, 1] : List Int)), (([2, 3, 2, 0, 3] : List Int))] : List (List Int)) : List (List Int))).bind fun y504 => ((spec_l1Cur_pick.f s0_0 t452 t453 (y504.length : Int)).bind fun bt507 => (if 0 ≤ bt507.1 then (if bt507.1 < (y504.length : Int) then ((spec_l1Own.f (rd_L2 y504 bt507.1)).bind fun t511 => ((spec_l1Cur_one.f s0_0 bt507.2.1 bt507.2.2 3).bind fun bt514 => (if bt514.1 = true then ((spec_roBack.f kj24 t511).bind fun t517 => (some (t517, bt514.2.1, bt514.2.2))) else (some (t511, bt514.2.1, bt514.2.2))))) else (none)) else (none)))) = some (r1, r2, r3) := by first | (rw [hy495]; with_reducible exact H) | (have H2_ := (Option.bind_some _ _).symm.trans H; rw [hy495]; with_reducible exact H2_) | (have H2_ := (Option.bind_some _ _).symm.trans H; with_reducible exact H2_) | with_reducible exact H | (rw [hy495]; exact H) | exact H
      have Ny495 := Aside0.mk hy495
      clear hy495
      obtain ⟨y498, hy498⟩ : ∃ y_ : List Int, y_ = (([5, 2, 4, 2, 3, 5, 4, 3, 1, 1] : List Int)) := ⟨_, rfl⟩
      replace H : ((some (([y477, y480, y483, y486, y489, y492, y495, y498, (([2, 3, 2, 0, 3] : List Int))] : List (List Int)) : List (List Int))).bind fun y504 => ((spec_l1Cur_pick.f s0_0 t452 t453 (y504.length : Int)).bind fun bt507 => (if 0 ≤ bt507.1 then (if bt507.1 < (y504.length : Int) then ((spec_l1Own.f (rd_L2 y504 bt507.1)).bind fun t511 => ((spec_l1Cur_one.f s0_0 bt507.2.1 bt507.2.2 3).bind fun bt514 => (if bt514.1 = true then ((spec_roBack.f kj24 t511).bind fun t517 => (some (t517, bt514.2.1, bt514.2.2))) else (some (t511, bt514.2.1, bt514.2.2))))) else (none)) else (none)))) = some (r1, r2, r3) := by first | (rw [hy498]; with_reducible exact H) | (have H2_ := (Option.bind_some _ _).symm.trans H; rw [hy498]; with_reducible exact H2_) | (have H2_ := (Option.bind_some _ _).symm.trans H; with_reducible exact H2_) | with_reducible exact H | (rw [hy498]; exact H) | exact H
      have Ny498 := Aside0.mk hy498
      clear hy498
      obtain ⟨y501, hy501⟩ : ∃ y_ : List Int, y_ = (([2, 3, 2, 0, 3] : List Int)) := ⟨_, rfl⟩
      replace H : ((some (([y477, y480, y483, y486, y489, y492, y495, y498, y501] : List (List Int)) : List (List Int))).bind fun y504 => ((spec_l1Cur_pick.f s0_0 t452 t453 (y504.length : Int)).bind fun bt507 => (if 0 ≤ bt507.1 then (if bt507.1 < (y504.length : Int) then ((spec_l1Own.f (rd_L2 y504 bt507.1)).bind fun t511 => ((spec_l1Cur_one.f s0_0 bt507.2.1 bt507.2.2 3).bind fun bt514 => (if bt514.1 = true then ((spec_roBack.f kj24 t511).bind fun t517 => (some (t517, bt514.2.1, bt514.2.2))) else (some (t511, bt514.2.1, bt514.2.2))))) else (none)) else (none)))) = some (r1, r2, r3) := by first | (rw [hy501]; with_reducible exact H) | (have H2_ := (Option.bind_some _ _).symm.trans H; rw [hy501]; with_reducible exact H2_) | (have H2_ := (Option.bind_some _ _).symm.trans H; with_reducible exact H2_) | with_reducible exact H | (rw [hy501]; exact H) | exact H
      have Ny501 := Aside0.mk hy501
      clear hy501
      obtain ⟨y504, hy504⟩ : ∃ y_ : List (List Int), y_ = (([y477, y480, y483, y486, y489, y492, y495, y498, y501] : List (List Int))) := ⟨_, rfl⟩
      replace H : ((spec_l1Cur_pick.f s0_0 t452 t453 (y504.length : Int)).bind fun bt507 => (if 0 ≤ bt507.1 then (if bt507.1 < (y504.length : Int) then ((spec_l1Own.f (rd_L2 y504 bt507.1)).bind fun t511 => ((spec_l1Cur_one.f s0_0 bt507.2.1 bt507.2.2 3).bind fun bt514 => (if bt514.1 = true then ((spec_roBack.f kj24 t511).bind fun t517 => (some (t517, bt514.2.1, bt514.2.2))) else (some (t511, bt514.2.1, bt514.2.2))))) else (none)) else (none))) = some (r1, r2, r3) := by first | (rw [hy504]; with_reducible exact H) | (have H2_ := (Option.bind_some _ _).symm.trans H; rw [hy504]; with_reducible exact H2_) | (have H2_ := (Option.bind_some _ _).symm.trans H; with_reducible exact H2_) | with_reducible exact H | (rw [hy504]; exact H) | exact H
      have Ny504 := Aside0.mk hy504
      clear hy504
      replace H := Option.bind_eq_some_iff.mp H
      obtain ⟨⟨t507, t508, t509⟩, A300, H⟩ := H
      replace H : (if 0 ≤ t507 then (if t507 < (y504.length : Int) then ((spec_l1Own.f (rd_L2 y504 t507)).bind fun t511 => ((spec_l1Cur_one.f s0_0 t508 t509 3).bind fun bt514 => (if bt514.1 = true then ((spec_roBack.f kj24 t511).bind fun t517 => (some (t517, bt514.2.1, bt514.2.2))) else (some (t511, bt514.2.1, bt514.2.2))))) else (none)) else (none)) = some (r1, r2, r3) := H
      have A30 := Aside0.mk A300
      clear A300
      by_cases c31 : 0 ≤ t507
      ·rw [if_pos c31] at H
       have c31b0 : decide (0 ≤ t507) = true := decide_eq_true c31
       clear c31
       by_cases c32 : t507 < (y504.length : Int)
       ·rw [if_pos c32] at H
        have c32b0 : decide (t507 < (y504.length : Int)) = true := decide_eq_true c32
        clear c32
        replace H := Option.bind_eq_some_iff.mp H
        obtain ⟨t511, A330, H⟩ := H
        replace H : ((spec_l1Cur_one.f s0_0 t508 t509 3).bind fun bt514 => (if bt514.1 = true then ((spec_roBack.f kj24 t511).bind fun t517 => (some (t517, bt514.2.1, bt514.2.2))) else (some (t511, bt514.2.1, bt514.2.2)))) = some (r1, r2, r3) := H
        have A33 := Aside0.mk A330
        clear A330
        replace H := Option.bind_eq_some_iff.mp H
        obtain ⟨⟨t514, t515, t516⟩, A340, H⟩ := H
        replace H : (if t514 = true then ((spec_roBack.f kj24 t511).bind fun t517 => (some (t517, t515, t516))) else (some (t511, t515, t516))) = some (r1, r2, r3) := H
        have A34 := Aside0.mk A340
        clear A340
        by_cases c35 : t514 = true
        ·subst c35
         have H1 : ((spec_roBack.f kj24 t511).bind fun t517 => (some (t517, t515, t516))) = some (r1, r2, r3) := by rw [if_pos rfl] at H; exact H
         clear H
         have H := H1
         clear H1
         replace H := Option.bind_eq_some_iff.mp H
         obtain ⟨t517, A360, H⟩ := H
         replace H : (some (t517, t515, t516)) = some (r1, r2, r3) := H
         have A36 := Aside0.mk A360
         clear A360
         simp only [Option.some.injEq, Prod.mk.injEq] at H
         obtain ⟨rfl, rfl, rfl⟩ := H
         go_wp2_with (first | ((with_reducible refine gate_dst (N := 30) rfl ?_); refine Kd.R_lit (Kd.int .i64) _ 3 ?hg (N := 30) ?hd (xs := ([1, 1] : List Int)) (inner := [.int .i64 1, .int .i64 1]) (ok := fun _ => True) (okp := fun _ => True) ?hr ?hp (fun _ hk => hk) trivial (Below.refl _ _) (Nat.le_refl _) (by simp) ?_; (case hd => rfl); (case hg => rfl); (case hr => first | (go_simp; done) | (go_simp; rfl)); (case hp => exact repsI _); intro v478 w37 ho38 hb hg_ hnew_; clear hg_ hnew_; (first | rw [← Ny477.out] at ho38 | (simp only [Int.reduceToNat] at ho38; rw [← Ny477.out] at ho38)); have HO479 := lowKR ho38 HK; replace HI0 := IsS108.up HI0 hb; replace HK := upKB HK hb; replace HB := upB HB hb; clear hb ho38) | ((with_reducible refine gate_dst (N := 31) rfl ?_); refine Kd.R_lit (Kd.int .i64) _ 3 ?hg (N := 31) ?hd (xs := ([3, 1, 2, 1, 3, 2] : List Int)) (inner := [.int .i64 3, .int .i64 1, .int .i64 2, .int .i64 1, .int .i64 3, .int .i64 2]) (ok := fun _ => True) (okp := fun _ => True) ?hr ?hp (fun _ hk => hk) trivial (Below.refl _ _) (Nat.le_refl _) (by simp) ?_; (case hd => rfl); (case hg => rfl); (case hr => first | (go_simp; done) | (go_simp; rfl)); (case hp => exact repsI _); intro v481 w39 ho40 hb hg_ hnew_; clear hg_ hnew_; (first | rw [← Ny480.out] at ho40 | (simp only [Int.reduceToNat] at ho40; rw [← Ny480.out] at ho40)); have HO482 := Aside0.mk (Kd.R_lower (Kd.R_new' ho40 (ltR HO479)) (szK HK)); replace HO479 := eldRR HO479 ho40 hb; replace HI0 := IsS108.up HI0 hb; replace HK := upKB HK hb; replace HB := upB HB hb; clear hb ho40) | ((with_reducible refine gate_dst (N := 32) rfl ?_); refine Kd.R_lit (Kd.int .i64) _ 3 ?hg (N := 32) ?hd (xs := ([1, 1, 2, 0, 2] : List Int)) (inner := [.int .i64 1, .int .i64 1, .int .i64 2, .int .i64 0, .int .i64 2]) (ok := fun _ => True) (okp := fun _ => True) ?hr ?hp (fun _ hk => hk) trivial (Below.refl _ _) (Nat.le_refl _) (by simp) ?_; (case hd => rfl); (case hg => rfl); (case hr => first | (go_simp; done) | (go_simp; rfl)); (case hp => exact repsI _); intro v484 w41 ho42 hb hg_ hnew_; clear hg_ hnew_; (first | rw [← Ny483.out] at ho42 | (simp only [Int.reduceToNat] at ho42; rw [← Ny483.out] at ho42)); have HO485 := Aside0.mk (Kd.R_lower (Kd.R_new' (Kd.R_new' ho42 (ltR HO479)) (ltR HO482)) (szK HK)); replace HO479 := eldRR HO479 ho42 hb; replace HO482 := eldRR HO482 ho42 hb; replace HI0 := IsS108.up HI0 hb; replace HK := upKB HK hb; replace HB := upB HB hb; clear hb ho42) | ((with_reducible refine gate_dst (N := 33) rfl ?_); refine Kd.R_lit (Kd.int .i64) _ 3 ?hg (N := 33) ?hd (xs := ([4, 2, 3, 2, 4, 3, 1, 1] : List Int)) (inner := [.int .i64 4, .int .i64 2, .int .i64 3, .int .i64 2, .int .i64 4, .int .i64 3, .int .i64 1, .int .i64 1]) (ok := fun _ => True) (okp := fun _ => True) ?hr ?hp (fun _ hk => hk) trivial (Below.refl _ _) (Nat.le_refl _) (by simp) ?_; (case hd => rfl); (case hg => rfl); (case hr => first | (go_simp; done) | (go_simp; rfl)); (case hp => exact repsI _); intro v487 w43 ho44 hb hg_ hnew_; clear hg_ hnew_; (first | rw [← Ny486.out] at ho44 | (simp only [Int.reduceToNat] at ho44; rw [← Ny486.out] at ho44)); have HO488 := Aside0.mk (Kd.R_lower (Kd.R_new' (Kd.R_new' (Kd.R_new' ho44 (ltR HO479)) (ltR HO482)) (ltR HO485)) (szK HK)); replace HO479 := eldRR HO479 ho44 hb; replace HO482 := eldRR HO482 ho44 hb; replace HO485 := eldRR HO485 ho44 hb; replace HI0 := IsS108.up HI0 hb; replace HK := upKB HK hb; replace HB := upB HB hb; clear hb ho44) | ((with_reducible refine gate_dst (N := 34) rfl ?_); refine Kd.R_lit (Kd.int .i64) _ 3 ?hg (N := 34) ?hd (xs := ([2, 3, 4, 2, 1, 3, 1, 4] : List Int)) (inner := [.int .i64 2, .int .i64 3, .int .i64 4, .int .i64 2, .int .i64 1, .int .i64 3, .int .i64 1, .int .i64 4]) (ok := fun _ => True) (okp := fun _ => True) ?hr ?hp (fun _ hk => hk) trivial (Below.refl _ _) (Nat.le_refl _) (by simp) ?_; (case hd => rfl); (case hg => rfl); (case hr => first | (go_simp; done) | (go_simp; rfl)); (case hp => exact repsI _); intro v490 w45 ho46 hb hg_ hnew_; clear hg_ hnew_; (first | rw [← Ny489.out] at ho46 | (simp only [Int.reduceToNat] at ho46; rw [← Ny489.out] at ho46)); have HO491 := Aside0.mk (Kd.R_lower (Kd.R_new' (Kd.R_new' (Kd.R_new' (Kd.R_new' ho46 (ltR HO479)) (ltR HO482)) (ltR HO485)) (ltR HO488)) (szK HK)); replace HO479 := eldRR HO479 ho46 hb; replace HO482 := eldRR HO482 ho46 hb; replace HO485 := eldRR HO485 ho46 hb; replace HO488 := eldRR HO488 ho46 hb; replace HI0 := IsS108.up HI0 hb; replace HK := upKB HK hb; replace HB := upB HB hb; clear hb ho46) | ((with_reducible refine gate_dst (N := 35) rfl ?_); refine Kd.R_lit (Kd.int .i64) _ 3 ?hg (N := 35) ?hd (xs := ([4, 1, 3, 1, 2, 4, 3, 2] : List Int)) (inner := [.int .i64 4, .int .i64 1, .int .i64 3, .int .i64 1, .int .i64 2, .int .i64 4, .int .i64 3, .int .i64 2]) (ok := fun _ => True) (okp := fun _ => True) ?hr ?hp (fun _ hk => hk) trivial (Below.refl _ _) (Nat.le_refl _) (by simp) ?_; (case hd => rfl); (case hg => rfl); (case hr => first | (go_simp; done) | (go_simp; rfl)); (case hp => exact repsI _); intro v493 w47 ho48 hb hg_ hnew_; clear hg_ hnew_; (first | rw [← Ny492.out] at ho48 | (simp only [Int.reduceToNat] at ho48; rw [← Ny492.out] at ho48)); have HO494 := Aside0.mk (Kd.R_lower (Kd.R_new' (Kd.R_new' (Kd.R_new' (Kd.R_new' (Kd.R_new' ho48 (ltR HO479)) (ltR HO482)) (ltR HO485)) (ltR HO488)) (ltR HO491)) (szK HK)); replace HO479 := eldRR HO479 ho48 hb; replace HO482 := eldRR HO482 ho48 hb; replace HO485 := eldRR HO485 ho48 hb; replace HO488 := eldRR HO488 ho48 hb; replace HO491 := eldRR HO491 ho48 hb; replace HI0 := IsS108.up HI0 hb; replace HK := upKB HK hb; replace HB := upB HB hb; clear hb ho48) | ((with_reducible refine gate_dst (N := 36) rfl ?_); refine Kd.R_lit (Kd.int .i64) _ 3 ?hg (N := 36) ?hd (xs := ([3, 1, 1, 3, 2, 0, 2] : List Int)) (inner := [.int .i64 3, .int .i64 1, .int .i64 1, .int .i64 3, .int .i64 2, .int .i64 0, .int .i64 2]) (ok := fun _ => True) (okp := fun _ => True) ?hr ?hp (fun _ hk => hk) trivial (Below.refl _ _) (Nat.le_refl _) (by simp) ?_; (case hd => rfl); (case hg => rfl); (case hr => first | (go_simp; done) | (go_simp; rfl)); (case hp => exact repsI _); intro v496 w49 ho50 hb hg_ hnew_; clear hg_ hnew_; (first | rw [← Ny495.out] at ho50 | (simp only [Int.reduceToNat] at ho50; rw [← Ny495.out] at ho50)); have HO497 := Aside0.mk (Kd.R_lower (Kd.R_new' (Kd.R_new' (Kd.R_new' (Kd.R_new' (Kd.R_new' (Kd.R_new' ho50 (ltR HO479)) (ltR HO482)) (ltR HO485)) (ltR HO488)) (ltR HO491)) (ltR HO494)) (szK HK)); replace HO479 := eldRR HO479 ho50 hb; replace HO482 := eldRR HO482 ho50 hb; replace HO485 := eldRR HO485 ho50 hb; replace HO488 := eldRR HO488 ho50 hb; replace HO491 := eldRR HO491 ho50 hb; replace HO494 := eldRR HO494 ho50 hb; replace HI0 := IsS108.up HI0 hb; replace HK := upKB HK hb; replace HB := upB HB hb; clear hb ho50) | ((with_reducible refine gate_dst (N := 37) rfl ?_); refine Kd.R_lit (Kd.int .i64) _ 3 ?hg (N := 37) ?hd (xs := ([5, 2, 4, 2, 3, 5, 4, 3, 1, 1] : List Int)) (inner := [.int .i64 5, .int .i64 2, .int .i64 4, .int .i64 2, .int .i64 3, .int .i64 5, .int .i64 4, .int .i64 3, .int .i64 1, .int .i64 1]) (ok := fun _ => True) (okp := fun _ => True) ?hr ?hp (fun _ hk => hk) trivial (Below.refl _ _) (Nat.le_refl _) (by simp) ?_; (case hd => rfl); (case hg => rfl); (case hr => first | (go_simp; done) | (go_simp; rfl)); (case hp => exact repsI _); intro v499 w51 ho52 hb hg_ hnew_; clear hg_ hnew_; (first | rw [← Ny498.out] at ho52 | (simp only [Int.reduceToNat] at ho52; rw [← Ny498.out] at ho52)); have HO500 := Aside0.mk (Kd.R_lower (Kd.R_new' (Kd.R_new' (Kd.R_new' (Kd.R_new' (Kd.R_new' (Kd.R_new' (Kd.R_new' ho52 (ltR HO479)) (ltR HO482)) (ltR HO485)) (ltR HO488)) (ltR HO491)) (ltR HO494)) (ltR HO497)) (szK HK)); replace HO479 := eldRR HO479 ho52 hb; replace HO482 := eldRR HO482 ho52 hb; replace HO485 := eldRR HO485 ho52 hb; replace HO488 := eldRR HO488 ho52 hb; replace HO491 := eldRR HO491 ho52 hb; replace HO494 := eldRR HO494 ho52 hb; replace HO497 := eldRR HO497 ho52 hb; replace HI0 := IsS108.up HI0 hb; replace HK := upKB HK hb; replace HB := upB HB hb; clear hb ho52) | ((with_reducible refine gate_dst (N := 38) rfl ?_); refine Kd.R_lit (Kd.int .i64) _ 3 ?hg (N := 38) ?hd (xs := ([2, 3, 2, 0, 3] : List Int)) (inner := [.int .i64 2, .int .i64 3, .int .i64 2, .int .i64 0, .int .i64 3]) (ok := fun _ => True) (okp := fun _ => True) ?hr ?hp (fun _ hk => hk) trivial (Below.refl _ _) (Nat.le_refl _) (by simp) ?_; (case hd => rfl); (case hg => rfl); (case hr => first | (go_simp; done) | (go_simp; rfl)); (case hp => exact repsI _); intro v502 w53 ho54 hb hg_ hnew_; clear hg_ hnew_; (first | rw [← Ny501.out] at ho54 | (simp only [Int.reduceToNat] at ho54; rw [← Ny501.out] at ho54)); have HO503 := Aside0.mk (Kd.R_lower (Kd.R_new' (Kd.R_new' (Kd.R_new' (Kd.R_new' (Kd.R_new' (Kd.R_new' (Kd.R_new' (Kd.R_new' ho54 (ltR HO479)) (ltR HO482)) (ltR HO485)) (ltR HO488)) (ltR HO491)) (ltR HO494)) (ltR HO497)) (ltR HO500)) (szK HK)); replace HO479 := eldRR HO479 ho54 hb; replace HO482 := eldRR HO482 ho54 hb; replace HO485 := eldRR HO485 ho54 hb; replace HO488 := eldRR HO488 ho54 hb; replace HO491 := eldRR HO491 ho54 hb; replace HO494 := eldRR HO494 ho54 hb; replace HO497 := eldRR HO497 ho54 hb; replace HO500 := eldRR HO500 ho54 hb; replace HI0 := IsS108.up HI0 hb; replace HK := upKB HK hb; replace HB := upB HB hb; clear hb ho54; obtain ⟨Ao55, co55, eo55⟩ := Kd.R_slice HO479.out; subst eo55; obtain ⟨Ao56, co56, eo56⟩ := Kd.R_slice HO482.out; subst eo56; obtain ⟨Ao57, co57, eo57⟩ := Kd.R_slice HO485.out; subst eo57; obtain ⟨Ao58, co58, eo58⟩ := Kd.R_slice HO488.out; subst eo58; obtain ⟨Ao59, co59, eo59⟩ := Kd.R_slice HO491.out; subst eo59; obtain ⟨Ao60, co60, eo60⟩ := Kd.R_slice HO494.out; subst eo60; obtain ⟨Ao61, co61, eo61⟩ := Kd.R_slice HO497.out; subst eo61; obtain ⟨Ao62, co62, eo62⟩ := Kd.R_slice HO500.out; subst eo62; obtain ⟨Ao63, co63, eo63⟩ := Kd.R_slice HO503.out; subst eo63) | ((with_reducible refine gate_dst (N := 39) rfl ?_); refine Kd.N_lit (Kd.slice 3 (Kd.int .i64)) _ 31 ?hg (N' := 39) ?hd (xs := ([y477, y480, y483, y486, y489, y492, y495, y498, y501] : List (List Int))) (inner := [.slice Ao55 y477.length co55, .slice Ao56 y480.length co56, .slice Ao57 y483.length co57, .slice Ao58 y486.length co58, .slice Ao59 y489.length co59, .slice Ao60 y492.length co60, .slice Ao61 y495.length co61, .slice Ao62 y498.length co62, .slice Ao63 y501.length co63]) (ok := (fun k_ => k_ ≠ g)) (okp := (fun k_ => k_ ≠ g)) ?hr ?hp (fun _ hk => hk) ((show ∀ k_, w53.heap.size ≤ k_ → (fun k_ => k_ ≠ g) k_ from fun k_ hk => IsS108.fresh (IsS108.at HI0) k_ hk) _ (Nat.le_refl _)) (Below.refl _ _) (Nat.le_refl _) (by simp) ?_; (case hd => rfl); (case hg => rfl); (case hr => first | (go_simp; done) | (go_simp; rfl)); (case hp => exact (Reps.one (show Kd.FK (Kd.slice 3 (Kd.int .i64)) _ _ y477 [.slice Ao55 y477.length co55] from (Kd.FK_slice_mk (Kd.R_reads' (Kd.R_mono (ok' := (fun k_ => k_ ≠ g)) (IsS108.apart HI0.out (HO479.out) (by decide)) (fun k_ hk => hk.2))).2.1 (Kd.R_F (Kd.R_mono (ok' := (fun k_ => k_ ≠ g)) (IsS108.apart HI0.out (HO479.out) (by decide)) (fun k_ hk => hk.2))))) (Reps.one (show Kd.FK (Kd.slice 3 (Kd.int .i64)) _ _ y480 [.slice Ao56 y480.length co56] from (Kd.FK_slice_mk (Kd.R_reads' (Kd.R_mono (ok' := (fun k_ => k_ ≠ g)) (IsS108.apart HI0.out (HO482.out) (by decide)) (fun k_ hk => hk.2))).2.1 (Kd.R_F (Kd.R_mono (ok' := (fun k_ => k_ ≠ g)) (IsS108.apart HI0.out (HO482.out) (by decide)) (fun k_ hk => hk.2))))) (Reps.one (show Kd.FK (Kd.slice 3 (Kd.int .i64)) _ _ y483 [.slice Ao57 y483.length co57] from (Kd.FK_slice_mk (Kd.R_reads' (Kd.R_mono (ok' := (fun k_ => k_ ≠ g)) (IsS108.apart HI0.out (HO485.out) (by decide)) (fun k_ hk => hk.2))).2.1 (Kd.R_F (Kd.R_mono (ok' := (fun k_ => k_ ≠ g)) (IsS108.apart HI0.out (HO485.out) (by decide)) (fun k_ hk => hk.2))))) (Reps.one (show Kd.FK (Kd.slice 3 (Kd.int .i64)) _ _ y486 [.slice Ao58 y486.length co58] from (Kd.FK_slice_mk (Kd.R_reads' (Kd.R_mono (ok' := (fun k_ => k_ ≠ g)) (IsS108.apart HI0.out (HO488.out) (by decide)) (fun k_ hk => hk.2))).2.1 (Kd.R_F (Kd.R_mono (ok' := (fun k_ => k_ ≠ g)) (IsS108.apart HI0.out (HO488.out) (by decide)) (fun k_ hk => hk.2))))) (Reps.one (show Kd.FK (Kd.slice 3 (Kd.int .i64)) _ _ y489 [.slice Ao59 y489.length co59] from (Kd.FK_slice_mk (Kd.R_reads' (Kd.R_mono (ok' := (fun k_ => k_ ≠ g)) (IsS108.apart HI0.out (HO491.out) (by decide)) (fun k_ hk => hk.2))).2.1 (Kd.R_F (Kd.R_mono (ok' := (fun k_ => k_ ≠ g)) (IsS108.apart HI0.out (HO491.out) (by decide)) (fun k_ hk => hk.2))))) (Reps.one (show Kd.FK (Kd.slice 3 (Kd.int .i64)) _ _ y492 [.slice Ao60 y492.length co60] from (Kd.FK_slice_mk (Kd.R_reads' (Kd.R_mono (ok' := (fun k_ => k_ ≠ g)) (IsS108.apart HI0.out (HO494.out) (by decide)) (fun k_ hk => hk.2))).2.1 (Kd.R_F (Kd.R_mono (ok' := (fun k_ => k_ ≠ g)) (IsS108.apart HI0.out (HO494.out) (by decide)) (fun k_ hk => hk.2))))) (Reps.one (show Kd.FK (Kd.slice 3 (Kd.int .i64)) _ _ y495 [.slice Ao61 y495.length co61] from (Kd.FK_slice_mk (Kd.R_reads' (Kd.R_mono (ok' := (fun k_ => k_ ≠ g)) (IsS108.apart HI0.out (HO497.out) (by decide)) (fun k_ hk => hk.2))).2.1 (Kd.R_F (Kd.R_mono (ok' := (fun k_ => k_ ≠ g)) (IsS108.apart HI0.out (HO497.out) (by decide)) (fun k_ hk => hk.2))))) (Reps.one (show Kd.FK (Kd.slice 3 (Kd.int .i64)) _ _ y498 [.slice Ao62 y498.length co62] from (Kd.FK_slice_mk (Kd.R_reads' (Kd.R_mono (ok' := (fun k_ => k_ ≠ g)) (IsS108.apart HI0.out (HO500.out) (by decide)) (fun k_ hk => hk.2))).2.1 (Kd.R_F (Kd.R_mono (ok' := (fun k_ => k_ ≠ g)) (IsS108.apart HI0.out (HO500.out) (by decide)) (fun k_ hk => hk.2))))) (Reps.one (show Kd.FK (Kd.slice 3 (Kd.int .i64)) _ _ y501 [.slice Ao63 y501.length co63] from (Kd.FK_slice_mk (Kd.R_reads' (Kd.R_mono (ok' := (fun k_ => k_ ≠ g)) (IsS108.apart HI0.out (HO503.out) (by decide)) (fun k_ hk => hk.2))).2.1 (Kd.R_F (Kd.R_mono (ok' := (fun k_ => k_ ≠ g)) (IsS108.apart HI0.out (HO503.out) (by decide)) (fun k_ hk => hk.2))))) (Reps.none _ _))))))))))); intro v505 w64 ho65 hb hg_ hnew_; clear hg_ hnew_; (first | rw [← Ny504.out] at ho65 | (simp only [Int.reduceToNat] at ho65; rw [← Ny504.out] at ho65)); have HO506 := Aside0.mk (Kd.N_lower ho65 (szK HK)); replace HI0 := IsS108.up HI0 hb; replace HK := upKB HK hb; replace HB := upB HB hb; clear HO479 HO482 HO485 HO488 HO491 HO494 HO497 HO500 HO503; clear hb ho65; obtain ⟨Ao66, co66, eo66⟩ := Kd.N_slice HO506.out; subst eo66) | ((with_reducible refine gate_callee (f := 171) rfl ?_); refine goesA (some 44) Try.func171 #[.pointer (some ⟨g, 0, none⟩), .int .i64 (y504.length : Int)] ?_; (with_reducible refine (spec_l1Cur_pick.calls g s0_0 t452 t453 (y504.length : Int) t507 t508 t509 w0 _ ?side1 ?side2 A30.out).mono ?_); (case side1 => exact IsS108.at HI0); (case side2 => exact atB HB); rintro e w67 ⟨rfl, hi, hb, hk⟩; refine ⟨_, rfl, ?_⟩; replace HO506 := Aside0.mk (Kd.N_mono (Kd.N_keep (Kd.N_mono (ok := fun k_ => k_ ≠ g) (by (with_reducible repeat (first | apply Kd.N_alloc | apply Kd.N_drewN | apply Kd.N_drew)); exact HO506.out) (fun k_ hk_ => (⟨hk_, hk_⟩ : _ ∧ k_ ≠ g))) hk (fun _ h => h.2)) (fun _ h => h.1)); replace HK := upK HK hk; replace HB := Aside0.mk (hb); replace HI0 := Aside0.mk (hi); (try clear hb); (try clear hb2); (try clear hk); (try clear hi); have p510 : 0 ≤ (t507 : Int) := ofd; have q510 : t507 < (y504.length : Int) := ofd; obtain ⟨ad510, A510_0, c510_0, e510, hx510_0, hl510_0, hi510_0⟩ := at_L2 (Kd.N_reads' HO506.out).2.2 t507 p510 q510; cases e510; obtain ⟨ce510, hce510, hMe510, hcc510⟩ := Kd.N_get HO506.out [] t507 p510 (by first | exact q510 | exact of_decide_eq_true (by first | (with_reducible assumption) | assumption) | (have e_ := (Kd.N_reads' HO506.out).1; omega)); obtain ⟨ua510_0, uc510_0, rfl, ul510_0, ge510_0⟩ := Kd.FK_slice_open hMe510; have hv510_0 := hcc510 0 _ rfl; rw [Nat.add_zero, show ((Kd.slice 3 (Kd.int .i64))).sz = 1 from rfl, Nat.mul_one] at hv510_0; replace hv510_0 := Option.some.inj (hv510_0.symm.trans hx510_0); injection hv510_0 with hva_ hvn_ hvc_; rw [hva_] at ge510_0; rw [hvc_] at ul510_0; have HL510_0 := Aside0.mk (show Kd.V (Kd.int .i64) 3 _ w.heap.size _ _ (rd_L2 y504 t507) from Kd.V_mk ul510_0 ge510_0); clear hva_ hvn_ hvc_ ge510_0 ul510_0; clear hcc510 hce510; have HR510_0 := Aside0.mk hi510_0; have HC510_0 := Aside0.mk hl510_0; clear hi510_0 hl510_0; replace p510 := eq_true p510; replace q510 := eq_true q510) | ((with_reducible refine gate_callee (f := 194) rfl ?_); refine goesA (some 47) Try.func194 #[.slice A510_0 (rd_L2 y504 t507).length c510_0] ?_; (with_reducible refine (spec_l1Own.calls _ _ (rd_L2 y504 t507) t511 _ ?side1 ?side2 A33.out).mono ?_); (case side1 => exact atC HR510_0); (case side2 => exact HC510_0.out); rintro e w68 ⟨v512, rfl, ho0, hb⟩; refine ⟨_, rfl, ?_⟩; have HO513 := lowKR ho0 HK; replace HO506 := Aside0.mk (Kd.N_elder' (by (with_reducible repeat (first | apply Kd.N_alloc | apply Kd.N_drewN | apply Kd.N_drew)); exact HO506.out) (Kd.R_base ho0) hb); replace HL510_0 := Aside0.mk (Kd.V_elder' (by (with_reducible repeat (first | apply Kd.V_alloc | apply Kd.V_drewN | apply Kd.V_drew)); exact HL510_0.out) (Kd.R_base ho0) hb); replace HI0 := IsS108.up HI0 hb; replace HR510_0 := upC HR510_0 hb; replace HK := upKB HK hb; replace HB := upB HB hb; (try clear hb); (try clear hb2); (try clear hk); (try clear hi); (try clear ho0)) | ((with_reducible refine gate_callee (f := 170) rfl ?_); refine goesA (some 49) Try.func170 #[.pointer (some ⟨g, 0, none⟩), .int .i64 3] ?_; (with_reducible refine (spec_l1Cur_one.calls g s0_0 t508 t509 3 true t515 t516 w0 _ ?side1 ?side2 A34.out).mono ?_); (case side1 => exact IsS108.at HI0); (case side2 => exact atB HB); rintro e w69 ⟨rfl, hi, hb, hk⟩; refine ⟨_, rfl, ?_⟩; replace HO506 := Aside0.mk (Kd.N_mono (Kd.N_keep (Kd.N_mono (ok := fun k_ => (k_ ≠ g ∧ some k_ ≠ (v512 : Value).ownBlock)) (by (with_reducible repeat (first | apply Kd.N_alloc | apply Kd.N_drewN | apply Kd.N_drew)); exact HO506.out) (fun k_ hk_ => (⟨hk_, hk_.1⟩ : _ ∧ k_ ≠ g))) hk (fun _ h => h.2)) (fun _ h => h.1)); replace HL510_0 := Aside0.mk (Kd.V_mono (Kd.V_keep (Kd.V_mono (ok := fun k_ => ((k_ ≠ g ∧ some k_ ≠ (.slice (some ad510) y504.length co66 : Value).ownBlock) ∧ some k_ ≠ (v512 : Value).ownBlock)) (by (with_reducible repeat (first | apply Kd.V_alloc | apply Kd.V_drewN | apply Kd.V_drew)); exact HL510_0.out) (fun k_ hk_ => (⟨hk_, hk_.1.1⟩ : _ ∧ k_ ≠ g))) hk (fun _ h => h.2)) (fun _ h => h.1)); replace HO513 := IsS108.keepR HI0 HO513 hk; replace HK := upK HK hk; replace HB := Aside0.mk (hb); replace HI0 := Aside0.mk (hi); (try clear hb); (try clear hb2); (try clear hk); (try clear hi); obtain ⟨Ao70, co70, eo70⟩ := Kd.R_slice HO513.out; subst eo70) | ((with_reducible refine gate_callee (f := 235) rfl ?_); refine goesA (some 51) Try.func235 #[.slice Ao70 t511.length co70] ?_; (with_reducible refine (spec_roBack.calls kj24 _ _ t511 t517 _ ?side1 ?side2 A36.out).mono ?_); (case side1 => exact atRC HO513); (case side2 => exact (Kd.R_reads' HO513.out).2.1); rintro e w71 ⟨v518, rfl, ho0, hb⟩; refine ⟨_, rfl, ?_⟩; have HO519 := Aside0.mk (Kd.R_lower (Kd.R_new' ho0 (ltR HO513)) (szK HK)); replace HO506 := Aside0.mk (Kd.N_elder' (by (with_reducible repeat (first | apply Kd.N_alloc | apply Kd.N_drewN | apply Kd.N_drew)); exact HO506.out) (Kd.R_base ho0) hb); replace HL510_0 := Aside0.mk (Kd.V_elder' (by (with_reducible repeat (first | apply Kd.V_alloc | apply Kd.V_drewN | apply Kd.V_drew)); exact HL510_0.out) (Kd.R_base ho0) hb); replace HO513 := eldRR HO513 ho0 hb; replace HI0 := IsS108.up HI0 hb; replace HK := upKB HK hb; replace HB := upB HB hb; (try clear hb); (try clear hb2); (try clear hk); (try clear hi); (try clear ho0)))
         go_ret
         exact ⟨_, eqr, by (with_reducible repeat (first | apply Kd.R_alloc | apply Kd.R_drewN | apply Kd.R_drew)); exact Kd.R_mono HO519.out (fun _ hk => trivial), IsS108.at HI0, atB HB, atK HK⟩
        ·replace c35 := Bool.eq_false_iff.mpr c35
         subst c35
         have H1 : (some (t511, t515, t516)) = some (r1, r2, r3) := by rw [if_neg (show ¬ (false = true) by decide)] at H; exact H
         clear H
         have H := H1
         clear H1
         simp only [Option.some.injEq, Prod.mk.injEq] at H
         obtain ⟨rfl, rfl, rfl⟩ := H
         go_wp2_with (first | ((with_reducible refine gate_dst (N := 30) rfl ?_); refine Kd.R_lit (Kd.int .i64) _ 3 ?hg (N := 30) ?hd (xs := ([1, 1] : List Int)) (inner := [.int .i64 1, .int .i64 1]) (ok := fun _ => True) (okp := fun _ => True) ?hr ?hp (fun _ hk => hk) trivial (Below.refl _ _) (Nat.le_refl _) (by simp) ?_; (case hd => rfl); (case hg => rfl); (case hr => first | (go_simp; done) | (go_simp; rfl)); (case hp => exact repsI _); intro v478 w72 ho73 hb hg_ hnew_; clear hg_ hnew_; (first | rw [← Ny477.out] at ho73 | (simp only [Int.reduceToNat] at ho73; rw [← Ny477.out] at ho73)); have HO479 := lowKR ho73 HK; replace HI0 := IsS108.up HI0 hb; replace HK := upKB HK hb; replace HB := upB HB hb; clear hb ho73) | ((with_reducible refine gate_dst (N := 31) rfl ?_); refine Kd.R_lit (Kd.int .i64) _ 3 ?hg (N := 31) ?hd (xs := ([3, 1, 2, 1, 3, 2] : List Int)) (inner := [.int .i64 3, .int .i64 1, .int .i64 2, .int .i64 1, .int .i64 3, .int .i64 2]) (ok := fun _ => True) (okp := fun _ => True) ?hr ?hp (fun _ hk => hk) trivial (Below.refl _ _) (Nat.le_refl _) (by simp) ?_; (case hd => rfl); (case hg => rfl); (case hr => first | (go_simp; done) | (go_simp; rfl)); (case hp => exact repsI _); intro v481 w74 ho75 hb hg_ hnew_; clear hg_ hnew_; (first | rw [← Ny480.out] at ho75 | (simp only [Int.reduceToNat] at ho75; rw [← Ny480.out] at ho75)); have HO482 := Aside0.mk (Kd.R_lower (Kd.R_new' ho75 (ltR HO479)) (szK HK)); replace HO479 := eldRR HO479 ho75 hb; replace HI0 := IsS108.up HI0 hb; replace HK := upKB HK hb; replace HB := upB HB hb; clear hb ho75) | ((with_reducible refine gate_dst (N := 32) rfl ?_); refine Kd.R_lit (Kd.int .i64) _ 3 ?hg (N := 32) ?hd (xs := ([1, 1, 2, 0, 2] : List Int)) (inner := [.int .i64 1, .int .i64 1, .int .i64 2, .int .i64 0, .int .i64 2]) (ok := fun _ => True) (okp := fun _ => True) ?hr ?hp (fun _ hk => hk) trivial (Below.refl _ _) (Nat.le_refl _) (by simp) ?_; (case hd => rfl); (case hg => rfl); (case hr => first | (go_simp; done) | (go_simp; rfl)); (case hp => exact repsI _); intro v484 w76 ho77 hb hg_ hnew_; clear hg_ hnew_; (first | rw [← Ny483.out] at ho77 | (simp only [Int.reduceToNat] at ho77; rw [← Ny483.out] at ho77)); have HO485 := Aside0.mk (Kd.R_lower (Kd.R_new' (Kd.R_new' ho77 (ltR HO479)) (ltR HO482)) (szK HK)); replace HO479 := eldRR HO479 ho77 hb; replace HO482 := eldRR HO482 ho77 hb; replace HI0 := IsS108.up HI0 hb; replace HK := upKB HK hb; replace HB := upB HB hb; clear hb ho77) | ((with_reducible refine gate_dst (N := 33) rfl ?_); refine Kd.R_lit (Kd.int .i64) _ 3 ?hg (N := 33) ?hd (xs := ([4, 2, 3, 2, 4, 3, 1, 1] : List Int)) (inner := [.int .i64 4, .int .i64 2, .int .i64 3, .int .i64 2, .int .i64 4, .int .i64 3, .int .i64 1, .int .i64 1]) (ok := fun _ => True) (okp := fun _ => True) ?hr ?hp (fun _ hk => hk) trivial (Below.refl _ _) (Nat.le_refl _) (by simp) ?_; (case hd => rfl); (case hg => rfl); (case hr => first | (go_simp; done) | (go_simp; rfl)); (case hp => exact repsI _); intro v487 w78 ho79 hb hg_ hnew_; clear hg_ hnew_; (first | rw [← Ny486.out] at ho79 | (simp only [Int.reduceToNat] at ho79; rw [← Ny486.out] at ho79)); have HO488 := Aside0.mk (Kd.R_lower (Kd.R_new' (Kd.R_new' (Kd.R_new' ho79 (ltR HO479)) (ltR HO482)) (ltR HO485)) (szK HK)); replace HO479 := eldRR HO479 ho79 hb; replace HO482 := eldRR HO482 ho79 hb; replace HO485 := eldRR HO485 ho79 hb; replace HI0 := IsS108.up HI0 hb; replace HK := upKB HK hb; replace HB := upB HB hb; clear hb ho79) | ((with_reducible refine gate_dst (N := 34) rfl ?_); refine Kd.R_lit (Kd.int .i64) _ 3 ?hg (N := 34) ?hd (xs := ([2, 3, 4, 2, 1, 3, 1, 4] : List Int)) (inner := [.int .i64 2, .int .i64 3, .int .i64 4, .int .i64 2, .int .i64 1, .int .i64 3, .int .i64 1, .int .i64 4]) (ok := fun _ => True) (okp := fun _ => True) ?hr ?hp (fun _ hk => hk) trivial (Below.refl _ _) (Nat.le_refl _) (by simp) ?_; (case hd => rfl); (case hg => rfl); (case hr => first | (go_simp; done) | (go_simp; rfl)); (case hp => exact repsI _); intro v490 w80 ho81 hb hg_ hnew_; clear hg_ hnew_; (first | rw [← Ny489.out] at ho81 | (simp only [Int.reduceToNat] at ho81; rw [← Ny489.out] at ho81)); have HO491 := Aside0.mk (Kd.R_lower (Kd.R_new' (Kd.R_new' (Kd.R_new' (Kd.R_new' ho81 (ltR HO479)) (ltR HO482)) (ltR HO485)) (ltR HO488)) (szK HK)); replace HO479 := eldRR HO479 ho81 hb; replace HO482 := eldRR HO482 ho81 hb; replace HO485 := eldRR HO485 ho81 hb; replace HO488 := eldRR HO488 ho81 hb; replace HI0 := IsS108.up HI0 hb; replace HK := upKB HK hb; replace HB := upB HB hb; clear hb ho81) | ((with_reducible refine gate_dst (N := 35) rfl ?_); refine Kd.R_lit (Kd.int .i64) _ 3 ?hg (N := 35) ?hd (xs := ([4, 1, 3, 1, 2, 4, 3, 2] : List Int)) (inner := [.int .i64 4, .int .i64 1, .int .i64 3, .int .i64 1, .int .i64 2, .int .i64 4, .int .i64 3, .int .i64 2]) (ok := fun _ => True) (okp := fun _ => True) ?hr ?hp (fun _ hk => hk) trivial (Below.refl _ _) (Nat.le_refl _) (by simp) ?_; (case hd => rfl); (case hg => rfl); (case hr => first | (go_simp; done) | (go_simp; rfl)); (case hp => exact repsI _); intro v493 w82 ho83 hb hg_ hnew_; clear hg_ hnew_; (first | rw [← Ny492.out] at ho83 | (simp only [Int.reduceToNat] at ho83; rw [← Ny492.out] at ho83)); have HO494 := Aside0.mk (Kd.R_lower (Kd.R_new' (Kd.R_new' (Kd.R_new' (Kd.R_new' (Kd.R_new' ho83 (ltR HO479)) (ltR HO482)) (ltR HO485)) (ltR HO488)) (ltR HO491)) (szK HK)); replace HO479 := eldRR HO479 ho83 hb; replace HO482 := eldRR HO482 ho83 hb; replace HO485 := eldRR HO485 ho83 hb; replace HO488 := eldRR HO488 ho83 hb; replace HO491 := eldRR HO491 ho83 hb; replace HI0 := IsS108.up HI0 hb; replace HK := upKB HK hb; replace HB := upB HB hb; clear hb ho83) | ((with_reducible refine gate_dst (N := 36) rfl ?_); refine Kd.R_lit (Kd.int .i64) _ 3 ?hg (N := 36) ?hd (xs := ([3, 1, 1, 3, 2, 0, 2] : List Int)) (inner := [.int .i64 3, .int .i64 1, .int .i64 1, .int .i64 3, .int .i64 2, .int .i64 0, .int .i64 2]) (ok := fun _ => True) (okp := fun _ => True) ?hr ?hp (fun _ hk => hk) trivial (Below.refl _ _) (Nat.le_refl _) (by simp) ?_; (case hd => rfl); (case hg => rfl); (case hr => first | (go_simp; done) | (go_simp; rfl)); (case hp => exact repsI _); intro v496 w84 ho85 hb hg_ hnew_; clear hg_ hnew_; (first | rw [← Ny495.out] at ho85 | (simp only [Int.reduceToNat] at ho85; rw [← Ny495.out] at ho85)); have HO497 := Aside0.mk (Kd.R_lower (Kd.R_new' (Kd.R_new' (Kd.R_new' (Kd.R_new' (Kd.R_new' (Kd.R_new' ho85 (ltR HO479)) (ltR HO482)) (ltR HO485)) (ltR HO488)) (ltR HO491)) (ltR HO494)) (szK HK)); replace HO479 := eldRR HO479 ho85 hb; replace HO482 := eldRR HO482 ho85 hb; replace HO485 := eldRR HO485 ho85 hb; replace HO488 := eldRR HO488 ho85 hb; replace HO491 := eldRR HO491 ho85 hb; replace HO494 := eldRR HO494 ho85 hb; replace HI0 := IsS108.up HI0 hb; replace HK := upKB HK hb; replace HB := upB HB hb; clear hb ho85) | ((with_reducible refine gate_dst (N := 37) rfl ?_); refine Kd.R_lit (Kd.int .i64) _ 3 ?hg (N := 37) ?hd (xs := ([5, 2, 4, 2, 3, 5, 4, 3, 1, 1] : List Int)) (inner := [.int .i64 5, .int .i64 2, .int .i64 4, .int .i64 2, .int .i64 3, .int .i64 5, .int .i64 4, .int .i64 3, .int .i64 1, .int .i64 1]) (ok := fun _ => True) (okp := fun _ => True) ?hr ?hp (fun _ hk => hk) trivial (Below.refl _ _) (Nat.le_refl _) (by simp) ?_; (case hd => rfl); (case hg => rfl); (case hr => first | (go_simp; done) | (go_simp; rfl)); (case hp => exact repsI _); intro v499 w86 ho87 hb hg_ hnew_; clear hg_ hnew_; (first | rw [← Ny498.out] at ho87 | (simp only [Int.reduceToNat] at ho87; rw [← Ny498.out] at ho87)); have HO500 := Aside0.mk (Kd.R_lower (Kd.R_new' (Kd.R_new' (Kd.R_new' (Kd.R_new' (Kd.R_new' (Kd.R_new' (Kd.R_new' ho87 (ltR HO479)) (ltR HO482)) (ltR HO485)) (ltR HO488)) (ltR HO491)) (ltR HO494)) (ltR HO497)) (szK HK)); replace HO479 := eldRR HO479 ho87 hb; replace HO482 := eldRR HO482 ho87 hb; replace HO485 := eldRR HO485 ho87 hb; replace HO488 := eldRR HO488 ho87 hb; replace HO491 := eldRR HO491 ho87 hb; replace HO494 := eldRR HO494 ho87 hb; replace HO497 := eldRR HO497 ho87 hb; replace HI0 := IsS108.up HI0 hb; replace HK := upKB HK hb; replace HB := upB HB hb; clear hb ho87) | ((with_reducible refine gate_dst (N := 38) rfl ?_); refine Kd.R_lit (Kd.int .i64) _ 3 ?hg (N := 38) ?hd (xs := ([2, 3, 2, 0, 3] : List Int)) (inner := [.int .i64 2, .int .i64 3, .int .i64 2, .int .i64 0, .int .i64 3]) (ok := fun _ => True) (okp := fun _ => True) ?hr ?hp (fun _ hk => hk) trivial (Below.refl _ _) (Nat.le_refl _) (by simp) ?_; (case hd => rfl); (case hg => rfl); (case hr => first | (go_simp; done) | (go_simp; rfl)); (case hp => exact repsI _); intro v502 w88 ho89 hb hg_ hnew_; clear hg_ hnew_; (first | rw [← Ny501.out] at ho89 | (simp only [Int.reduceToNat] at ho89; rw [← Ny501.out] at ho89)); have HO503 := Aside0.mk (Kd.R_lower (Kd.R_new' (Kd.R_new' (Kd.R_new' (Kd.R_new' (Kd.R_new' (Kd.R_new' (Kd.R_new' (Kd.R_new' ho89 (ltR HO479)) (ltR HO482)) (ltR HO485)) (ltR HO488)) (ltR HO491)) (ltR HO494)) (ltR HO497)) (ltR HO500)) (szK HK)); replace HO479 := eldRR HO479 ho89 hb; replace HO482 := eldRR HO482 ho89 hb; replace HO485 := eldRR HO485 ho89 hb; replace HO488 := eldRR HO488 ho89 hb; replace HO491 := eldRR HO491 ho89 hb; replace HO494 := eldRR HO494 ho89 hb; replace HO497 := eldRR HO497 ho89 hb; replace HO500 := eldRR HO500 ho89 hb; replace HI0 := IsS108.up HI0 hb; replace HK := upKB HK hb; replace HB := upB HB hb; clear hb ho89; obtain ⟨Ao90, co90, eo90⟩ := Kd.R_slice HO479.out; subst eo90; obtain ⟨Ao91, co91, eo91⟩ := Kd.R_slice HO482.out; subst eo91; obtain ⟨Ao92, co92, eo92⟩ := Kd.R_slice HO485.out; subst eo92; obtain ⟨Ao93, co93, eo93⟩ := Kd.R_slice HO488.out; subst eo93; obtain ⟨Ao94, co94, eo94⟩ := Kd.R_slice HO491.out; subst eo94; obtain ⟨Ao95, co95, eo95⟩ := Kd.R_slice HO494.out; subst eo95; obtain ⟨Ao96, co96, eo96⟩ := Kd.R_slice HO497.out; subst eo96; obtain ⟨Ao97, co97, eo97⟩ := Kd.R_slice HO500.out; subst eo97; obtain ⟨Ao98, co98, eo98⟩ := Kd.R_slice HO503.out; subst eo98) | ((with_reducible refine gate_dst (N := 39) rfl ?_); refine Kd.N_lit (Kd.slice 3 (Kd.int .i64)) _ 31 ?hg (N' := 39) ?hd (xs := ([y477, y480, y483, y486, y489, y492, y495, y498, y501] : List (List Int))) (inner := [.slice Ao90 y477.length co90, .slice Ao91 y480.length co91, .slice Ao92 y483.length co92, .slice Ao93 y486.length co93, .slice Ao94 y489.length co94, .slice Ao95 y492.length co95, .slice Ao96 y495.length co96, .slice Ao97 y498.length co97, .slice Ao98 y501.length co98]) (ok := (fun k_ => k_ ≠ g)) (okp := (fun k_ => k_ ≠ g)) ?hr ?hp (fun _ hk => hk) ((show ∀ k_, w88.heap.size ≤ k_ → (fun k_ => k_ ≠ g) k_ from fun k_ hk => IsS108.fresh (IsS108.at HI0) k_ hk) _ (Nat.le_refl _)) (Below.refl _ _) (Nat.le_refl _) (by simp) ?_; (case hd => rfl); (case hg => rfl); (case hr => first | (go_simp; done) | (go_simp; rfl)); (case hp => exact (Reps.one (show Kd.FK (Kd.slice 3 (Kd.int .i64)) _ _ y477 [.slice Ao90 y477.length co90] from (Kd.FK_slice_mk (Kd.R_reads' (Kd.R_mono (ok' := (fun k_ => k_ ≠ g)) (IsS108.apart HI0.out (HO479.out) (by decide)) (fun k_ hk => hk.2))).2.1 (Kd.R_F (Kd.R_mono (ok' := (fun k_ => k_ ≠ g)) (IsS108.apart HI0.out (HO479.out) (by decide)) (fun k_ hk => hk.2))))) (Reps.one (show Kd.FK (Kd.slice 3 (Kd.int .i64)) _ _ y480 [.slice Ao91 y480.length co91] from (Kd.FK_slice_mk (Kd.R_reads' (Kd.R_mono (ok' := (fun k_ => k_ ≠ g)) (IsS108.apart HI0.out (HO482.out) (by decide)) (fun k_ hk => hk.2))).2.1 (Kd.R_F (Kd.R_mono (ok' := (fun k_ => k_ ≠ g)) (IsS108.apart HI0.out (HO482.out) (by decide)) (fun k_ hk => hk.2))))) (Reps.one (show Kd.FK (Kd.slice 3 (Kd.int .i64)) _ _ y483 [.slice Ao92 y483.length co92] from (Kd.FK_slice_mk (Kd.R_reads' (Kd.R_mono (ok' := (fun k_ => k_ ≠ g)) (IsS108.apart HI0.out (HO485.out) (by decide)) (fun k_ hk => hk.2))).2.1 (Kd.R_F (Kd.R_mono (ok' := (fun k_ => k_ ≠ g)) (IsS108.apart HI0.out (HO485.out) (by decide)) (fun k_ hk => hk.2))))) (Reps.one (show Kd.FK (Kd.slice 3 (Kd.int .i64)) _ _ y486 [.slice Ao93 y486.length co93] from (Kd.FK_slice_mk (Kd.R_reads' (Kd.R_mono (ok' := (fun k_ => k_ ≠ g)) (IsS108.apart HI0.out (HO488.out) (by decide)) (fun k_ hk => hk.2))).2.1 (Kd.R_F (Kd.R_mono (ok' := (fun k_ => k_ ≠ g)) (IsS108.apart HI0.out (HO488.out) (by decide)) (fun k_ hk => hk.2))))) (Reps.one (show Kd.FK (Kd.slice 3 (Kd.int .i64)) _ _ y489 [.slice Ao94 y489.length co94] from (Kd.FK_slice_mk (Kd.R_reads' (Kd.R_mono (ok' := (fun k_ => k_ ≠ g)) (IsS108.apart HI0.out (HO491.out) (by decide)) (fun k_ hk => hk.2))).2.1 (Kd.R_F (Kd.R_mono (ok' := (fun k_ => k_ ≠ g)) (IsS108.apart HI0.out (HO491.out) (by decide)) (fun k_ hk => hk.2))))) (Reps.one (show Kd.FK (Kd.slice 3 (Kd.int .i64)) _ _ y492 [.slice Ao95 y492.length co95] from (Kd.FK_slice_mk (Kd.R_reads' (Kd.R_mono (ok' := (fun k_ => k_ ≠ g)) (IsS108.apart HI0.out (HO494.out) (by decide)) (fun k_ hk => hk.2))).2.1 (Kd.R_F (Kd.R_mono (ok' := (fun k_ => k_ ≠ g)) (IsS108.apart HI0.out (HO494.out) (by decide)) (fun k_ hk => hk.2))))) (Reps.one (show Kd.FK (Kd.slice 3 (Kd.int .i64)) _ _ y495 [.slice Ao96 y495.length co96] from (Kd.FK_slice_mk (Kd.R_reads' (Kd.R_mono (ok' := (fun k_ => k_ ≠ g)) (IsS108.apart HI0.out (HO497.out) (by decide)) (fun k_ hk => hk.2))).2.1 (Kd.R_F (Kd.R_mono (ok' := (fun k_ => k_ ≠ g)) (IsS108.apart HI0.out (HO497.out) (by decide)) (fun k_ hk => hk.2))))) (Reps.one (show Kd.FK (Kd.slice 3 (Kd.int .i64)) _ _ y498 [.slice Ao97 y498.length co97] from (Kd.FK_slice_mk (Kd.R_reads' (Kd.R_mono (ok' := (fun k_ => k_ ≠ g)) (IsS108.apart HI0.out (HO500.out) (by decide)) (fun k_ hk => hk.2))).2.1 (Kd.R_F (Kd.R_mono (ok' := (fun k_ => k_ ≠ g)) (IsS108.apart HI0.out (HO500.out) (by decide)) (fun k_ hk => hk.2))))) (Reps.one (show Kd.FK (Kd.slice 3 (Kd.int .i64)) _ _ y501 [.slice Ao98 y501.length co98] from (Kd.FK_slice_mk (Kd.R_reads' (Kd.R_mono (ok' := (fun k_ => k_ ≠ g)) (IsS108.apart HI0.out (HO503.out) (by decide)) (fun k_ hk => hk.2))).2.1 (Kd.R_F (Kd.R_mono (ok' := (fun k_ => k_ ≠ g)) (IsS108.apart HI0.out (HO503.out) (by decide)) (fun k_ hk => hk.2))))) (Reps.none _ _))))))))))); intro v505 w99 ho100 hb hg_ hnew_; clear hg_ hnew_; (first | rw [← Ny504.out] at ho100 | (simp only [Int.reduceToNat] at ho100; rw [← Ny504.out] at ho100)); have HO506 := Aside0.mk (Kd.N_lower ho100 (szK HK)); replace HI0 := IsS108.up HI0 hb; replace HK := upKB HK hb; replace HB := upB HB hb; clear HO479 HO482 HO485 HO488 HO491 HO494 HO497 HO500 HO503; clear hb ho100; obtain ⟨Ao101, co101, eo101⟩ := Kd.N_slice HO506.out; subst eo101) | ((with_reducible refine gate_callee (f := 171) rfl ?_); refine goesA (some 44) Try.func171 #[.pointer (some ⟨g, 0, none⟩), .int .i64 (y504.length : Int)] ?_; (with_reducible refine (spec_l1Cur_pick.calls g s0_0 t452 t453 (y504.length : Int) t507 t508 t509 w0 _ ?side1 ?side2 A30.out).mono ?_); (case side1 => exact IsS108.at HI0); (case side2 => exact atB HB); rintro e w102 ⟨rfl, hi, hb, hk⟩; refine ⟨_, rfl, ?_⟩; replace HO506 := Aside0.mk (Kd.N_mono (Kd.N_keep (Kd.N_mono (ok := fun k_ => k_ ≠ g) (by (with_reducible repeat (first | apply Kd.N_alloc | apply Kd.N_drewN | apply Kd.N_drew)); exact HO506.out) (fun k_ hk_ => (⟨hk_, hk_⟩ : _ ∧ k_ ≠ g))) hk (fun _ h => h.2)) (fun _ h => h.1)); replace HK := upK HK hk; replace HB := Aside0.mk (hb); replace HI0 := Aside0.mk (hi); (try clear hb); (try clear hb2); (try clear hk); (try clear hi); have p510 : 0 ≤ (t507 : Int) := ofd; have q510 : t507 < (y504.length : Int) := ofd; obtain ⟨ad510, A510_0, c510_0, e510, hx510_0, hl510_0, hi510_0⟩ := at_L2 (Kd.N_reads' HO506.out).2.2 t507 p510 q510; cases e510; obtain ⟨ce510, hce510, hMe510, hcc510⟩ := Kd.N_get HO506.out [] t507 p510 (by first | exact q510 | exact of_decide_eq_true (by first | (with_reducible assumption) | assumption) | (have e_ := (Kd.N_reads' HO506.out).1; omega)); obtain ⟨ua510_0, uc510_0, rfl, ul510_0, ge510_0⟩ := Kd.FK_slice_open hMe510; have hv510_0 := hcc510 0 _ rfl; rw [Nat.add_zero, show ((Kd.slice 3 (Kd.int .i64))).sz = 1 from rfl, Nat.mul_one] at hv510_0; replace hv510_0 := Option.some.inj (hv510_0.symm.trans hx510_0); injection hv510_0 with hva_ hvn_ hvc_; rw [hva_] at ge510_0; rw [hvc_] at ul510_0; have HL510_0 := Aside0.mk (show Kd.V (Kd.int .i64) 3 _ w.heap.size _ _ (rd_L2 y504 t507) from Kd.V_mk ul510_0 ge510_0); clear hva_ hvn_ hvc_ ge510_0 ul510_0; clear hcc510 hce510; have HR510_0 := Aside0.mk hi510_0; have HC510_0 := Aside0.mk hl510_0; clear hi510_0 hl510_0; replace p510 := eq_true p510; replace q510 := eq_true q510) | ((with_reducible refine gate_callee (f := 194) rfl ?_); refine goesA (some 47) Try.func194 #[.slice A510_0 (rd_L2 y504 t507).length c510_0] ?_; (with_reducible refine (spec_l1Own.calls _ _ (rd_L2 y504 t507) t511 _ ?side1 ?side2 A33.out).mono ?_); (case side1 => exact atC HR510_0); (case side2 => exact HC510_0.out); rintro e w103 ⟨v512, rfl, ho0, hb⟩; refine ⟨_, rfl, ?_⟩; have HO513 := lowKR ho0 HK; replace HO506 := Aside0.mk (Kd.N_elder' (by (with_reducible repeat (first | apply Kd.N_alloc | apply Kd.N_drewN | apply Kd.N_drew)); exact HO506.out) (Kd.R_base ho0) hb); replace HL510_0 := Aside0.mk (Kd.V_elder' (by (with_reducible repeat (first | apply Kd.V_alloc | apply Kd.V_drewN | apply Kd.V_drew)); exact HL510_0.out) (Kd.R_base ho0) hb); replace HI0 := IsS108.up HI0 hb; replace HR510_0 := upC HR510_0 hb; replace HK := upKB HK hb; replace HB := upB HB hb; (try clear hb); (try clear hb2); (try clear hk); (try clear hi); (try clear ho0)) | ((with_reducible refine gate_callee (f := 170) rfl ?_); refine goesA (some 49) Try.func170 #[.pointer (some ⟨g, 0, none⟩), .int .i64 3] ?_; (with_reducible refine (spec_l1Cur_one.calls g s0_0 t508 t509 3 false t515 t516 w0 _ ?side1 ?side2 A34.out).mono ?_); (case side1 => exact IsS108.at HI0); (case side2 => exact atB HB); rintro e w104 ⟨rfl, hi, hb, hk⟩; refine ⟨_, rfl, ?_⟩; replace HO506 := Aside0.mk (Kd.N_mono (Kd.N_keep (Kd.N_mono (ok := fun k_ => (k_ ≠ g ∧ some k_ ≠ (v512 : Value).ownBlock)) (by (with_reducible repeat (first | apply Kd.N_alloc | apply Kd.N_drewN | apply Kd.N_drew)); exact HO506.out) (fun k_ hk_ => (⟨hk_, hk_.1⟩ : _ ∧ k_ ≠ g))) hk (fun _ h => h.2)) (fun _ h => h.1)); replace HL510_0 := Aside0.mk (Kd.V_mono (Kd.V_keep (Kd.V_mono (ok := fun k_ => ((k_ ≠ g ∧ some k_ ≠ (.slice (some ad510) y504.length co101 : Value).ownBlock) ∧ some k_ ≠ (v512 : Value).ownBlock)) (by (with_reducible repeat (first | apply Kd.V_alloc | apply Kd.V_drewN | apply Kd.V_drew)); exact HL510_0.out) (fun k_ hk_ => (⟨hk_, hk_.1.1⟩ : _ ∧ k_ ≠ g))) hk (fun _ h => h.2)) (fun _ h => h.1)); replace HO513 := IsS108.keepR HI0 HO513 hk; replace HK := upK HK hk; replace HB := Aside0.mk (hb); replace HI0 := Aside0.mk (hi); (try clear hb); (try clear hb2); (try clear hk); (try clear hi)))
         go_ret
         exact ⟨_, eqr, atR HO513, IsS108.at HI0, atB HB, atK HK⟩
       ·rw [if_neg c32] at H
        exact absurd H (by simp)
      ·rw [if_neg c31] at H
       exact absurd H (by simp)
     ·replace c29 := Bool.eq_false_iff.mpr c29
      subst c29
      have H1 : ((spec_l1Cur_pick.f s0_0 t452 t453 2).bind fun bt520 => ((spec_l1Cur_surePairs.f kj24 s0_0 bt520.2.1 bt520.2.2 bt520.1).bind fun bt523 => (some (bt523.1, bt523.2.1, bt523.2.2)))) = some (r1, r2, r3) := by rw [if_neg (show ¬ (false = true) by decide)] at H; exact H
      clear H
      have H := H1
      clear H1
      replace H := Option.bind_eq_some_iff.mp H
      obtain ⟨⟨t520, t521, t522⟩, A1050, H⟩ := H
      replace H : ((spec_l1Cur_surePairs.f kj24 s0_0 t521 t522 t520).bind fun bt523 => (some (bt523.1, bt523.2.1, bt523.2.2))) = some (r1, r2, r3) := H
      have A105 := Aside0.mk A1050
      clear A1050
      replace H := Option.bind_eq_some_iff.mp H
      obtain ⟨⟨t523, t526, t527⟩, A1060, H⟩ := H
      replace H : (some (t523, t526, t527)) = some (r1, r2, r3) := H
      have A106 := Aside0.mk A1060
      clear A1060
      simp only [Option.some.injEq, Prod.mk.injEq] at H
      obtain ⟨rfl, rfl, rfl⟩ := H
      go_wp2_with (first | ((with_reducible refine gate_callee (f := 171) rfl ?_); refine goesA (some 55) Try.func171 #[.pointer (some ⟨g, 0, none⟩), .int .i64 2] ?_; (with_reducible refine (spec_l1Cur_pick.calls g s0_0 t452 t453 2 t520 t521 t522 w0 _ ?side1 ?side2 A105.out).mono ?_); (case side1 => exact IsS108.at HI0); (case side2 => exact atB HB); rintro e w107 ⟨rfl, hi, hb, hk⟩; refine ⟨_, rfl, ?_⟩; replace HK := upK HK hk; replace HB := Aside0.mk (hb); replace HI0 := Aside0.mk (hi); (try clear hb); (try clear hb2); (try clear hk); (try clear hi)) | ((with_reducible refine gate_callee (f := 231) rfl ?_); refine goesA (some 56) Try.func231 #[.pointer (some ⟨g, 0, none⟩), .int .i64 t520] ?_; (with_reducible refine (spec_l1Cur_surePairs.calls kj24 g s0_0 t521 t522 t520 t523 t526 t527 w0 _ ?side1 ?side2 A106.out).mono ?_); (case side1 => exact IsS108.at HI0); (case side2 => exact atB HB); rintro e w108 ⟨v524, rfl, ho0, hi, hb, hk⟩; refine ⟨_, rfl, ?_⟩; have HO525 := lowKR ho0 HK; replace HK := upK HK hk; replace HB := Aside0.mk (hb); replace HI0 := Aside0.mk (hi); (try clear hb); (try clear hb2); (try clear hk); (try clear hi); (try clear ho0)))
      go_ret
      exact ⟨_, eqr, atR HO525, IsS108.at HI0, atB HB, atK HK⟩

noncomputable def spec_l1Cur_row.J0 (x26 : Bool) (x1000 : List Int) (x1001 : Int) (x1002 : Int) : Option (List Int × Int × Int) := lim fun k => spec_l1Cur_row.j0 k x26 x1000 x1001 x1002
theorem spec_l1Cur_row.J0_lim (x26 : Bool) (x1000 : List Int) (x1001 : Int) (x1002 : Int) : Lim (fun k => spec_l1Cur_row.j0 k x26 x1000 x1001 x1002) (spec_l1Cur_row.J0 x26 x1000 x1001 x1002) := Lim.of fun k => (spec_l1Cur_row.mono_l k) x26 x1000 x1001 x1002
noncomputable def spec_l1Cur_row.F (s0_0 : List Int) (s0_1 : Int) (s0_2 : Int) : Option (List Int × Int × Int) := lim fun k => spec_l1Cur_row.f k s0_0 s0_1 s0_2
theorem spec_l1Cur_row.F_lim (s0_0 : List Int) (s0_1 : Int) (s0_2 : Int) : Lim (fun k => spec_l1Cur_row.f k s0_0 s0_1 s0_2) (spec_l1Cur_row.F s0_0 s0_1 s0_2) := Lim.of fun k => spec_l1Cur_row.mono s0_0 s0_1 s0_2 k
theorem spec_l1Cur_row.J0_eq (x26 : Bool) (x1000 : List Int) (x1001 : Int) (x1002 : Int) : spec_l1Cur_row.J0 x26 x1000 x1001 x1002 = (if x26 = true then ((some (([(([1, 1] : List Int)), (([3, 1, 2, 1, 3, 2] : List Int)), (([1, 1, 2, 0, 2] : List Int)), (([4, 2, 3, 2, 4, 3, 1, 1] : List Int)), (([2, 3, 4, 2, 1, 3, 1, 4] : List Int)), (([4, 1, 3, 1, 2, 4, 3, 2] : List Int)), (([3, 1, 1, 3, 2, 0, 2] : List Int)), (([5, 2, 4, 2, 3, 5, 4, 3, 1, 1] : List Int)), (([2, 3, 2, 0, 3] : List Int))] : List (List Int)) : List (List Int))).bind fun y504 => ((spec_l1Cur_pick.f x1000 x1001 x1002 (y504.length : Int)).bind fun bt507 => (if 0 ≤ bt507.1 then (if bt507.1 < (y504.length : Int) then ((spec_l1Own.f (rd_L2 y504 bt507.1)).bind fun t511 => ((spec_l1Cur_one.f x1000 bt507.2.1 bt507.2.2 3).bind fun bt514 => (if bt514.1 = true then ((spec_roBack.F t511).bind fun t517 => (some (t517, bt514.2.1, bt514.2.2))) else (some (t511, bt514.2.1, bt514.2.2))))) else (none)) else (none)))) else ((spec_l1Cur_pick.f x1000 x1001 x1002 2).bind fun bt520 => ((spec_l1Cur_surePairs.F x1000 bt520.2.1 bt520.2.2 bt520.1).bind fun bt523 => (some (bt523.1, bt523.2.1, bt523.2.2))))) :=
 Lim.step (f := fun k => spec_l1Cur_row.j0 (k + 1) x26 x1000 x1001 x1002) (spec_l1Cur_row.J0_lim x26 x1000 x1001 x1002) (fun _ => rfl) (by
  simp only [spec_l1Cur_row.j0]
  repeat' (first | (with_reducible first | exact Lim.const _ | exact spec_l1Cur_surePairs.F_lim _ _ _ _ | exact spec_roBack.F_lim _ | refine Lim.ite ?_ ?_ | refine Lim.bind ?_ (fun _ => ?_))))
theorem spec_l1Cur_row.F_eq (s0_0 : List Int) (s0_1 : Int) (s0_2 : Int) : spec_l1Cur_row.F s0_0 s0_1 s0_2 = ((spec_l1Cur_pick.f s0_0 s0_1 s0_2 14).bind fun bt451 => (if bt451.1 = 0 then ((spec_l1Cur_pick.f s0_0 bt451.2.1 bt451.2.2 2).bind fun bt454 => ((spec_l1Cur_surePairs.F s0_0 bt454.2.1 bt454.2.2 bt454.1).bind fun bt457 => ((spec_l1Cur_among.f s0_0 bt457.2.1 bt457.2.2 (([(-1), 1, 20, 21, 4611686018427387904] : List Int))).bind fun bt465 => (if bt457.1.length < 17592186044416 then (some ((bt457.1 ++ [bt465.1]), bt465.2.1, bt465.2.2)) else (none))))) else (if bt451.1 = 1 then ((spec_l1Cur_pick.f s0_0 bt451.2.1 bt451.2.2 2).bind fun bt471 => (if 0 ≤ (wrap64 (40 + bt471.1)) then (if (wrap64 (40 + bt471.1) : Int).toNat ≤ 35184372088832 then (some ((List.replicate (wrap64 (40 + bt471.1) : Int).toNat 0), bt471.2.1, bt471.2.2)) else (none)) else (none))) else (if bt451.1 = 2 then (spec_l1Cur_row.J0 (bt451.1 == 2) s0_0 bt451.2.1 bt451.2.2) else (if bt451.1 = 3 then (spec_l1Cur_row.J0 (bt451.1 == 3) s0_0 bt451.2.1 bt451.2.2) else (spec_l1Cur_row.J0 (bt451.1 == 4) s0_0 bt451.2.1 bt451.2.2)))))) :=
 Lim.unique (spec_l1Cur_row.F_lim s0_0 s0_1 s0_2) (by
  unfold spec_l1Cur_row.f
  repeat' (first | (with_reducible first | exact Lim.const _ | exact spec_l1Cur_row.J0_lim _ _ _ _ | exact spec_l1Cur_surePairs.F_lim _ _ _ _ | refine Lim.ite ?_ ?_ | refine Lim.bind ?_ (fun _ => ?_))))

end Go.Proofs.Ytaohgllnoomaeaa.Fn
namespace Go.Proofs.Ytaohgllnoomaeaa.Fn
open Go.RowKit Go.Proofs.YtaohgllnoomaeaaW.PrintWords Go.Proofs.YtaohgllnoomaeaaW.PrintLast Go.Proofs.YtaohgllnoomaeaaW.PrintMore
attribute [local go_sem] max2_int min2_int max_two min_two max_three min_three max_four min_four   -- for this text's walks alone
set_option linter.unusedVariables false
set_option linter.unusedSimpArgs false

/-! ### spec_l1Cur_soughtRow: function 196 -/
def spec_l1Cur_soughtRow.f (k : Nat) (s0_0 : List Int) (s0_1 : Int) (s0_2 : Int) : Option (List Int × Int × Int) := (spec_l1Cur_one.f s0_0 s0_1 s0_2 6).bind fun bt786 => (if bt786.1 = true then ((spec_l1Cur_row.f k s0_0 bt786.2.1 bt786.2.2).bind fun bt789 => (some (bt789.1, bt789.2.1, bt789.2.2))) else ((spec_l1Cur_among.f s0_0 bt786.2.1 bt786.2.2 (([1, 4, 5, 4, 5, 8] : List Int))).bind fun bt797 => ((spec_seSkolem.f bt797.1 60).bind fun t800 => ((spec_l1Cur_pick.f s0_0 bt797.2.1 bt797.2.2 (t800.length : Int)).bind fun bt803 => (if 0 ≤ bt803.1 then (if bt803.1 < (t800.length : Int) then ((spec_l1Cur_one.f s0_0 bt803.2.1 bt803.2.2 3).bind fun bt807 => (if bt807.1 = true then ((spec_roBack.f k (rd_L2 t800 bt803.1)).bind fun t810 => (some (t810, bt807.2.1, bt807.2.2))) else (some (rd_L2 t800 bt803.1, bt807.2.1, bt807.2.2)))) else (none)) else (none))))))
theorem spec_l1Cur_soughtRow.mono : ∀ a0 a1 a2 k, LeO (spec_l1Cur_soughtRow.f k a0 a1 a2) (spec_l1Cur_soughtRow.f (k + 1) a0 a1 a2) := by
 intro a0 a1 a2 k
 unfold spec_l1Cur_soughtRow.f
 repeat' (first | (with_reducible first | exact spec_l1Cur_row.mono _ _ _ _ | exact spec_roBack.mono _ _ | exact LeO.refl _ | exact LeO.none _ | refine LeO.ite ?_ ?_ | refine LeO.bind ?_ (fun _ => ?_)) | exact spec_l1Cur_row.mono _ _ _ _ | exact spec_roBack.mono _ _ | exact LeO.none _ | refine LeO.ite ?_ ?_ | refine LeO.bind ?_ (fun _ => ?_))
set_option maxHeartbeats 8000000 in
set_option maxRecDepth 100000 in
theorem spec_l1Cur_soughtRow.calls (k : Nat) (g : Nat) (s0_0 : List Int) (s0_1 : Int) (s0_2 : Int) (r1 : List Int) (r2 : Int) (r3 : Int) (w0 w : World) (hI : IsS108 w0 w g s0_0 s0_1 s0_2) (hB : Below w0.heap.size w0 w) (h : spec_l1Cur_soughtRow.f k s0_0 s0_1 s0_2 = some (r1, r2, r3)) :
  Calls Try.prog 196 #[.pointer (some ⟨g, 0, none⟩)] w fun e w' => ∃ v0_ : Value, e = .returned (v0_) ∧ Kd.R (Kd.int .i64) 3 w' w.heap.size (fun _ => True) v0_ r1 ∧ IsS108 w0 w' g s0_0 r2 r3 ∧ Below w0.heap.size w0 w' ∧ KeepBut w w' g none := by
 have HI0 := Aside0.mk hI
 have HK := Aside0.mk (KeepBut.refl w g none)
 have HL := Aside0.mk hB.size
 clear hI
 have HW0 := Aside0.mk hB.size
 have HB := Aside0.mk hB
 clear hB
 have H := h
 unfold spec_l1Cur_soughtRow.f at H
 clear h
 replace H := Option.bind_eq_some_iff.mp H
 obtain ⟨⟨t786, t787, t788⟩, A20, H⟩ := H
 replace H : (if t786 = true then ((spec_l1Cur_row.f k s0_0 t787 t788).bind fun bt789 => (some (bt789.1, bt789.2.1, bt789.2.2))) else ((spec_l1Cur_among.f s0_0 t787 t788 (([1, 4, 5, 4, 5, 8] : List Int))).bind fun bt797 => ((spec_seSkolem.f bt797.1 60).bind fun t800 => ((spec_l1Cur_pick.f s0_0 bt797.2.1 bt797.2.2 (t800.length : Int)).bind fun bt803 => (if 0 ≤ bt803.1 then (if bt803.1 < (t800.length : Int) then ((spec_l1Cur_one.f s0_0 bt803.2.1 bt803.2.2 3).bind fun bt807 => (if bt807.1 = true then ((spec_roBack.f k (rd_L2 t800 bt803.1)).bind fun t810 => (some (t810, bt807.2.1, bt807.2.2))) else (some (rd_L2 t800 bt803.1, bt807.2.1, bt807.2.2)))) else (none)) else (none)))))) = some (r1, r2, r3) := H
 have A2 := Aside0.mk A20
 clear A20
 by_cases c3 : t786 = true
 ·subst c3
  have H1 : ((spec_l1Cur_row.f k s0_0 t787 t788).bind fun bt789 => (some (bt789.1, bt789.2.1, bt789.2.2))) = some (r1, r2, r3) := by rw [if_pos rfl] at H; exact H
  clear H
  have H := H1
  clear H1
  replace H := Option.bind_eq_some_iff.mp H
  obtain ⟨⟨t789, t792, t793⟩, A40, H⟩ := H
  replace H : (some (t789, t792, t793)) = some (r1, r2, r3) := H
  have A4 := Aside0.mk A40
  clear A40
  simp only [Option.some.injEq, Prod.mk.injEq] at H
  obtain ⟨rfl, rfl, rfl⟩ := H
  go_enter Try.func196, Try.ntmps196
  go_wp2_with (first | ((with_reducible refine gate_callee (f := 170) rfl ?_); refine goesA (some 6) Try.func170 #[.pointer (some ⟨g, 0, none⟩), .int .i64 6] ?_; (with_reducible refine (spec_l1Cur_one.calls g s0_0 s0_1 s0_2 6 true t787 t788 w0 _ ?side1 ?side2 A2.out).mono ?_); (case side1 => exact IsS108.at HI0); (case side2 => exact atB HB); rintro e w5 ⟨rfl, hi, hb, hk⟩; refine ⟨_, rfl, ?_⟩; replace HK := upK HK hk; replace HB := Aside0.mk (hb); replace HI0 := Aside0.mk (hi); (try clear hb); (try clear hb2); (try clear hk); (try clear hi)) | ((with_reducible refine gate_callee (f := 188) rfl ?_); refine goesA (some 8) Try.func188 #[.pointer (some ⟨g, 0, none⟩)] ?_; (with_reducible refine (spec_l1Cur_row.calls k g s0_0 t787 t788 t789 t792 t793 w0 _ ?side1 ?side2 A4.out).mono ?_); (case side1 => exact IsS108.at HI0); (case side2 => exact atB HB); rintro e w6 ⟨v790, rfl, ho0, hi, hb, hk⟩; refine ⟨_, rfl, ?_⟩; have HO791 := lowKR ho0 HK; replace HK := upK HK hk; replace HB := Aside0.mk (hb); replace HI0 := Aside0.mk (hi); (try clear hb); (try clear hb2); (try clear hk); (try clear hi); (try clear ho0)))
  go_ret
  exact ⟨_, eqr, atR HO791, IsS108.at HI0, atB HB, atK HK⟩
 ·replace c3 := Bool.eq_false_iff.mpr c3
  subst c3
  have H1 : ((spec_l1Cur_among.f s0_0 t787 t788 (([1, 4, 5, 4, 5, 8] : List Int))).bind fun bt797 => ((spec_seSkolem.f bt797.1 60).bind fun t800 => ((spec_l1Cur_pick.f s0_0 bt797.2.1 bt797.2.2 (t800.length : Int)).bind fun bt803 => (if 0 ≤ bt803.1 then (if bt803.1 < (t800.length : Int) then ((spec_l1Cur_one.f s0_0 bt803.2.1 bt803.2.2 3).bind fun bt807 => (if bt807.1 = true then ((spec_roBack.f k (rd_L2 t800 bt803.1)).bind fun t810 => (some (t810, bt807.2.1, bt807.2.2))) else (some (rd_L2 t800 bt803.1, bt807.2.1, bt807.2.2)))) else (none)) else (none))))) = some (r1, r2, r3) := by rw [if_neg (show ¬ (false = true) by decide)] at H; exact H
  clear H
  have H := H1
  clear H1
  obtain ⟨y794, hy794⟩ : ∃ y_ : List Int, y_ = (([1, 4, 5, 4, 5, 8] : List Int)) := ⟨_, rfl⟩
  replace H : ((spec_l1Cur_among.f s0_0 t787 t788 y794).bind fun bt797 => ((spec_seSkolem.f bt797.1 60).bind fun t800 => ((spec_l1Cur_pick.f s0_0 bt797.2.1 bt797.2.2 (t800.length : Int)).bind fun bt803 => (if 0 ≤ bt803.1 then (if bt803.1 < (t800.length : Int) then ((spec_l1Cur_one.f s0_0 bt803.2.1 bt803.2.2 3).bind fun bt807 => (if bt807.1 = true then ((spec_roBack.f k (rd_L2 t800 bt803.1)).bind fun t810 => (some (t810, bt807.2.1, bt807.2.2))) else (some (rd_L2 t800 bt803.1, bt807.2.1, bt807.2.2)))) else (none)) else (none))))) = some (r1, r2, r3) := by first | (rw [hy794]; with_reducible exact H) | (have H2_ := (Option.bind_some _ _).symm.trans H; rw [hy794]; with_reducible exact H2_) | (have H2_ := (Option.bind_some _ _).symm.trans H; with_reducible exact H2_) | with_reducible exact H | (rw [hy794]; exact H) | exact H
  have Ny794 := Aside0.mk hy794
  clear hy794
  replace H := Option.bind_eq_some_iff.mp H
  obtain ⟨⟨t797, t798, t799⟩, A70, H⟩ := H
  replace H : ((spec_seSkolem.f t797 60).bind fun t800 => ((spec_l1Cur_pick.f s0_0 t798 t799 (t800.length : Int)).bind fun bt803 => (if 0 ≤ bt803.1 then (if bt803.1 < (t800.length : Int) then ((spec_l1Cur_one.f s0_0 bt803.2.1 bt803.2.2 3).bind fun bt807 => (if bt807.1 = true then ((spec_roBack.f k (rd_L2 t800 bt803.1)).bind fun t810 => (some (t810, bt807.2.1, bt807.2.2))) else (some (rd_L2 t800 bt803.1, bt807.2.1, bt807.2.2)))) else (none)) else (none)))) = some (r1, r2, r3) := H
  have A7 := Aside0.mk A70
  clear A70
  replace H := Option.bind_eq_some_iff.mp H
  obtain ⟨t800, A80, H⟩ := H
  replace H : ((spec_l1Cur_pick.f s0_0 t798 t799 (t800.length : Int)).bind fun bt803 => (if 0 ≤ bt803.1 then (if bt803.1 < (t800.length : Int) then ((spec_l1Cur_one.f s0_0 bt803.2.1 bt803.2.2 3).bind fun bt807 => (if bt807.1 = true then ((spec_roBack.f k (rd_L2 t800 bt803.1)).bind fun t810 => (some (t810, bt807.2.1, bt807.2.2))) else (some (rd_L2 t800 bt803.1, bt807.2.1, bt807.2.2)))) else (none)) else (none))) = some (r1, r2, r3) := H
  have A8 := Aside0.mk A80
  clear A80
  replace H := Option.bind_eq_some_iff.mp H
  obtain ⟨⟨t803, t804, t805⟩, A90, H⟩ := H
  replace H : (if 0 ≤ t803 then (if t803 < (t800.length : Int) then ((spec_l1Cur_one.f s0_0 t804 t805 3).bind fun bt807 => (if bt807.1 = true then ((spec_roBack.f k (rd_L2 t800 t803)).bind fun t810 => (some (t810, bt807.2.1, bt807.2.2))) else (some (rd_L2 t800 t803, bt807.2.1, bt807.2.2)))) else (none)) else (none)) = some (r1, r2, r3) := H
  have A9 := Aside0.mk A90
  clear A90
  by_cases c10 : 0 ≤ t803
  ·rw [if_pos c10] at H
   have c10b0 : decide (0 ≤ t803) = true := decide_eq_true c10
   clear c10
   by_cases c11 : t803 < (t800.length : Int)
   ·rw [if_pos c11] at H
    have c11b0 : decide (t803 < (t800.length : Int)) = true := decide_eq_true c11
    clear c11
    replace H := Option.bind_eq_some_iff.mp H
    obtain ⟨⟨t807, t808, t809⟩, A120, H⟩ := H
    replace H : (if t807 = true then ((spec_roBack.f k (rd_L2 t800 t803)).bind fun t810 => (some (t810, t808, t809))) else (some (rd_L2 t800 t803, t808, t809))) = some (r1, r2, r3) := H
    have A12 := Aside0.mk A120
    clear A120
    by_cases c13 : t807 = true
    ·subst c13
     have H1 : ((spec_roBack.f k (rd_L2 t800 t803)).bind fun t810 => (some (t810, t808, t809))) = some (r1, r2, r3) := by rw [if_pos rfl] at H; exact H
     clear H
     have H := H1
     clear H1
     replace H := Option.bind_eq_some_iff.mp H
     obtain ⟨t810, A140, H⟩ := H
     replace H : (some (t810, t808, t809)) = some (r1, r2, r3) := H
     have A14 := Aside0.mk A140
     clear A140
     simp only [Option.some.injEq, Prod.mk.injEq] at H
     obtain ⟨rfl, rfl, rfl⟩ := H
     go_enter Try.func196, Try.ntmps196
     go_wp2_with (first | ((with_reducible refine gate_callee (f := 170) rfl ?_); refine goesA (some 6) Try.func170 #[.pointer (some ⟨g, 0, none⟩), .int .i64 6] ?_; (with_reducible refine (spec_l1Cur_one.calls g s0_0 s0_1 s0_2 6 false t787 t788 w0 _ ?side1 ?side2 A2.out).mono ?_); (case side1 => exact IsS108.at HI0); (case side2 => exact atB HB); rintro e w15 ⟨rfl, hi, hb, hk⟩; refine ⟨_, rfl, ?_⟩; replace HK := upK HK hk; replace HB := Aside0.mk (hb); replace HI0 := Aside0.mk (hi); (try clear hb); (try clear hb2); (try clear hk); (try clear hi)) | ((with_reducible refine gate_dst (N := 10) rfl ?_); refine Kd.R_lit (Kd.int .i64) _ 3 ?hg (N := 10) ?hd (xs := ([1, 4, 5, 4, 5, 8] : List Int)) (inner := [.int .i64 1, .int .i64 4, .int .i64 5, .int .i64 4, .int .i64 5, .int .i64 8]) (ok := fun _ => True) (okp := fun _ => True) ?hr ?hp (fun _ hk => hk) trivial (Below.refl _ _) (Nat.le_refl _) (by simp) ?_; (case hd => rfl); (case hg => rfl); (case hr => first | (go_simp; done) | (go_simp; rfl)); (case hp => exact repsI _); intro v795 w16 ho17 hb hg_ hnew_; clear hg_ hnew_; (first | rw [← Ny794.out] at ho17 | (simp only [Int.reduceToNat] at ho17; rw [← Ny794.out] at ho17)); have HO796 := lowKR ho17 HK; replace HI0 := IsS108.up HI0 hb; replace HK := upKB HK hb; replace HB := upB HB hb; clear hb ho17; obtain ⟨Ao18, co18, eo18⟩ := Kd.R_slice HO796.out; subst eo18) | ((with_reducible refine gate_callee (f := 191) rfl ?_); refine goesA (some 11) Try.func191 #[.pointer (some ⟨g, 0, none⟩), .slice Ao18 y794.length co18] ?_; (with_reducible refine (spec_l1Cur_among.calls g s0_0 t787 t788 _ _ y794 t797 t798 t799 w0 _ ?side1 ?side2 ?side3 ?side4 ?side5 A7.out).mono ?_); (case side1 => exact IsS108.at HI0); (case side2 => exact atB HB); (case side3 => exact atRC HO796); (case side4 => exact (Kd.R_reads' HO796.out).2.1); (case side5 => exact far_slice (IsS108.own_ne HI0.out HO796.out (by decide))); rintro e w19 ⟨rfl, hi, hb, hk⟩; refine ⟨_, rfl, ?_⟩; replace HO796 := IsS108.keepR HI0 HO796 hk; replace HK := upK HK hk; replace HB := Aside0.mk (hb); replace HI0 := Aside0.mk (hi); (try clear hb); (try clear hb2); (try clear hk); (try clear hi)) | ((with_reducible refine gate_callee (f := 163) rfl ?_); refine goesA (some 12) Try.func163 #[.int .i64 t797, .int .i64 60] ?_; (with_reducible refine (spec_seSkolem.calls t797 60 t800 _ A8.out).mono ?_); rintro e w20 ⟨v801, ⟨gS_, rfl, hcS_⟩, ho0, hb⟩; refine ⟨_, rfl, ?_⟩; have HO802 := lowKS ho0 HK; replace HO796 := upR HO796 hb; replace HI0 := IsS108.up HI0 hb; replace HK := upKB HK hb; replace HB := upB HB hb; (try clear hb); (try clear hb2); (try clear hk); (try clear hi); (try clear ho0); obtain ⟨Ao21, co21, eo21⟩ := Kd.S_slice HO802.out; subst eo21) | ((with_reducible refine gate_callee (f := 171) rfl ?_); refine goesA (some 20) Try.func171 #[.pointer (some ⟨g, 0, none⟩), .int .i64 (t800.length : Int)] ?_; (with_reducible refine (spec_l1Cur_pick.calls g s0_0 t798 t799 (t800.length : Int) t803 t804 t805 w0 _ ?side1 ?side2 A9.out).mono ?_); (case side1 => exact IsS108.at HI0); (case side2 => exact atB HB); rintro e w22 ⟨rfl, hi, hb, hk⟩; refine ⟨_, rfl, ?_⟩; replace HO796 := IsS108.keepR HI0 HO796 hk; replace HO802 := IsS108.keepS HI0 HO802 hk; replace HK := upK HK hk; replace HB := Aside0.mk (hb); replace HI0 := Aside0.mk (hi); (try clear hb); (try clear hb2); (try clear hk); (try clear hi); have p806 : 0 ≤ (t803 : Int) := ofd; have q806 : t803 < (t800.length : Int) := ofd; obtain ⟨ad806, A806_0, c806_0, e806, hx806_0, hl806_0, hi806_0⟩ := at_L2 (Kd.S_reads' HO802.out).2.2 t803 p806 q806; cases e806; obtain ⟨ce806, hce806, hMe806, hcc806⟩ := Kd.S_get HO802.out [] t803 p806 (by first | exact q806 | exact of_decide_eq_true (by first | (with_reducible assumption) | assumption) | (have e_ := (Kd.S_reads' HO802.out).1; omega)); obtain ⟨ve806_0, rfl, ge806_0⟩ := hMe806; have hv806_0 := hcc806 0 _ rfl; rw [Nat.add_zero, show ((Kd.slice 3 (Kd.int .i64))).sz = 1 from rfl, Nat.mul_one] at hv806_0; replace hv806_0 := Option.some.inj (hv806_0.symm.trans hx806_0); rw [hv806_0] at ge806_0; have HL806_0 := Aside0.mk (show Kd.R (Kd.int .i64) 3 _ _ _ _ (rd_L2 t800 t803) from ge806_0); clear hv806_0 ge806_0; clear hcc806 hce806; have HR806_0 := Aside0.mk hi806_0; have HC806_0 := Aside0.mk hl806_0; clear hi806_0 hl806_0; replace p806 := eq_true p806; replace q806 := eq_true q806) | ((with_reducible refine gate_callee (f := 170) rfl ?_); refine goesA (some 24) Try.func170 #[.pointer (some ⟨g, 0, none⟩), .int .i64 3] ?_; (with_reducible refine (spec_l1Cur_one.calls g s0_0 t804 t805 3 true t808 t809 w0 _ ?side1 ?side2 A12.out).mono ?_); (case side1 => exact IsS108.at HI0); (case side2 => exact atB HB); rintro e w23 ⟨rfl, hi, hb, hk⟩; refine ⟨_, rfl, ?_⟩; replace HO796 := IsS108.keepR HI0 HO796 hk; replace HO802 := IsS108.keepS HI0 HO802 hk; replace HL806_0 := IsS108.keepR HI0 HL806_0 hk; replace HK := upK HK hk; replace HB := Aside0.mk (hb); replace HI0 := Aside0.mk (hi); (try clear hb); (try clear hb2); (try clear hk); (try clear hi)) | ((with_reducible refine gate_callee (f := 235) rfl ?_); refine goesA (some 26) Try.func235 #[.slice A806_0 (rd_L2 t800 t803).length c806_0] ?_; (with_reducible refine (spec_roBack.calls k _ _ (rd_L2 t800 t803) t810 _ ?side1 ?side2 A14.out).mono ?_); (case side1 => repeat (first | exact ((Kd.R_reads' (atR HL806_0)).2.2) | (with_reducible refine Kd.C_alloc ?_ _) | (with_reducible refine Kd.C_drewN ?_ _) | (with_reducible refine Kd.C_drew ?_))); (case side2 => exact HC806_0.out); rintro e w24 ⟨v811, rfl, ho0, hb⟩; refine ⟨_, rfl, ?_⟩; have HO812 := lowKR ho0 HK; replace HO796 := upR HO796 hb; replace HO802 := upS HO802 hb; replace HL806_0 := upR HL806_0 hb; replace HI0 := IsS108.up HI0 hb; replace HK := upKB HK hb; replace HB := upB HB hb; (try clear hb); (try clear hb2); (try clear hk); (try clear hi); (try clear ho0)))
     go_ret
     exact ⟨_, eqr, atR HO812, IsS108.at HI0, atB HB, atK HK⟩
    ·replace c13 := Bool.eq_false_iff.mpr c13
     subst c13
     have H1 : (some (rd_L2 t800 t803, t808, t809)) = some (r1, r2, r3) := by rw [if_neg (show ¬ (false = true) by decide)] at H; exact H
     clear H
     have H := H1
     clear H1
     simp only [Option.some.injEq, Prod.mk.injEq] at H
     obtain ⟨rfl, rfl, rfl⟩ := H
     go_enter Try.func196, Try.ntmps196
     go_wp2_with (first | ((with_reducible refine gate_callee (f := 170) rfl ?_); refine goesA (some 6) Try.func170 #[.pointer (some ⟨g, 0, none⟩), .int .i64 6] ?_; (with_reducible refine (spec_l1Cur_one.calls g s0_0 s0_1 s0_2 6 false t787 t788 w0 _ ?side1 ?side2 A2.out).mono ?_); (case side1 => exact IsS108.at HI0); (case side2 => exact atB HB); rintro e w25 ⟨rfl, hi, hb, hk⟩; refine ⟨_, rfl, ?_⟩; replace HK := upK HK hk; replace HB := Aside0.mk (hb); replace HI0 := Aside0.mk (hi); (try clear hb); (try clear hb2); (try clear hk); (try clear hi)) | ((with_reducible refine gate_dst (N := 10) rfl ?_); refine Kd.R_lit (Kd.int .i64) _ 3 ?hg (N := 10) ?hd (xs := ([1, 4, 5, 4, 5, 8] : List Int)) (inner := [.int .i64 1, .int .i64 4, .int .i64 5, .int .i64 4, .int .i64 5, .int .i64 8]) (ok := fun _ => True) (okp := fun _ => True) ?hr ?hp (fun _ hk => hk) trivial (Below.refl _ _) (Nat.le_refl _) (by simp) ?_; (case hd => rfl); (case hg => rfl); (case hr => first | (go_simp; done) | (go_simp; rfl)); (case hp => exact repsI _); intro v795 w26 ho27 hb hg_ hnew_; clear hg_ hnew_; (first | rw [← Ny794.out] at ho27 | (simp only [Int.reduceToNat] at ho27; rw [← Ny794.out] at ho27)); have HO796 := lowKR ho27 HK; replace HI0 := IsS108.up HI0 hb; replace HK := upKB HK hb; replace HB := upB HB hb; clear hb ho27; obtain ⟨Ao28, co28, eo28⟩ := Kd.R_slice HO796.out; subst eo28) | ((with_reducible refine gate_callee (f := 191) rfl ?_); refine goesA (some 11) Try.func191 #[.pointer (some ⟨g, 0, none⟩), .slice Ao28 y794.length co28] ?_; (with_reducible refine (spec_l1Cur_among.calls g s0_0 t787 t788 _ _ y794 t797 t798 t799 w0 _ ?side1 ?side2 ?side3 ?side4 ?side5 A7.out).mono ?_); (case side1 => exact IsS108.at HI0); (case side2 => exact atB HB); (case side3 => exact atRC HO796); (case side4 => exact (Kd.R_reads' HO796.out).2.1); (case side5 => exact far_slice (IsS108.own_ne HI0.out HO796.out (by decide))); rintro e w29 ⟨rfl, hi, hb, hk⟩; refine ⟨_, rfl, ?_⟩; replace HO796 := IsS108.keepR HI0 HO796 hk; replace HK := upK HK hk; replace HB := Aside0.mk (hb); replace HI0 := Aside0.mk (hi); (try clear hb); (try clear hb2); (try clear hk); (try clear hi)) | ((with_reducible refine gate_callee (f := 163) rfl ?_); refine goesA (some 12) Try.func163 #[.int .i64 t797, .int .i64 60] ?_; (with_reducible refine (spec_seSkolem.calls t797 60 t800 _ A8.out).mono ?_); rintro e w30 ⟨v801, ⟨gS_, rfl, hcS_⟩, ho0, hb⟩; refine ⟨_, rfl, ?_⟩; have HO802 := lowKS ho0 HK; replace HO796 := upR HO796 hb; replace HI0 := IsS108.up HI0 hb; replace HK := upKB HK hb; replace HB := upB HB hb; (try clear hb); (try clear hb2); (try clear hk); (try clear hi); (try clear ho0); obtain ⟨Ao31, co31, eo31⟩ := Kd.S_slice HO802.out; subst eo31) | ((with_reducible refine gate_callee (f := 171) rfl ?_); refine goesA (some 20) Try.func171 #[.pointer (some ⟨g, 0, none⟩), .int .i64 (t800.length : Int)] ?_; (with_reducible refine (spec_l1Cur_pick.calls g s0_0 t798 t799 (t800.length : Int) t803 t804 t805 w0 _ ?side1 ?side2 A9.out).mono ?_); (case side1 => exact IsS108.at HI0); (case side2 => exact atB HB); rintro e w32 ⟨rfl, hi, hb, hk⟩; refine ⟨_, rfl, ?_⟩; replace HO796 := IsS108.keepR HI0 HO796 hk; replace HO802 := IsS108.keepS HI0 HO802 hk; replace HK := upK HK hk; replace HB := Aside0.mk (hb); replace HI0 := Aside0.mk (hi); (try clear hb); (try clear hb2); (try clear hk); (try clear hi); have p806 : 0 ≤ (t803 : Int) := ofd; have q806 : t803 < (t800.length : Int) := ofd; obtain ⟨ad806, A806_0, c806_0, e806, hx806_0, hl806_0, hi806_0⟩ := at_L2 (Kd.S_reads' HO802.out).2.2 t803 p806 q806; cases e806; obtain ⟨ce806, hce806, hMe806, hcc806⟩ := Kd.S_get HO802.out [] t803 p806 (by first | exact q806 | exact of_decide_eq_true (by first | (with_reducible assumption) | assumption) | (have e_ := (Kd.S_reads' HO802.out).1; omega)); obtain ⟨ve806_0, rfl, ge806_0⟩ := hMe806; have hv806_0 := hcc806 0 _ rfl; rw [Nat.add_zero, show ((Kd.slice 3 (Kd.int .i64))).sz = 1 from rfl, Nat.mul_one] at hv806_0; replace hv806_0 := Option.some.inj (hv806_0.symm.trans hx806_0); rw [hv806_0] at ge806_0; have HL806_0 := Aside0.mk (show Kd.R (Kd.int .i64) 3 _ _ _ _ (rd_L2 t800 t803) from ge806_0); clear hv806_0 ge806_0; clear hcc806 hce806; have HR806_0 := Aside0.mk hi806_0; have HC806_0 := Aside0.mk hl806_0; clear hi806_0 hl806_0; replace p806 := eq_true p806; replace q806 := eq_true q806) | ((with_reducible refine gate_callee (f := 170) rfl ?_); refine goesA (some 24) Try.func170 #[.pointer (some ⟨g, 0, none⟩), .int .i64 3] ?_; (with_reducible refine (spec_l1Cur_one.calls g s0_0 t804 t805 3 false t808 t809 w0 _ ?side1 ?side2 A12.out).mono ?_); (case side1 => exact IsS108.at HI0); (case side2 => exact atB HB); rintro e w33 ⟨rfl, hi, hb, hk⟩; refine ⟨_, rfl, ?_⟩; replace HO796 := IsS108.keepR HI0 HO796 hk; replace HO802 := IsS108.keepS HI0 HO802 hk; replace HL806_0 := IsS108.keepR HI0 HL806_0 hk; replace HK := upK HK hk; replace HB := Aside0.mk (hb); replace HI0 := Aside0.mk (hi); (try clear hb); (try clear hb2); (try clear hk); (try clear hi)))
     go_ret
     exact ⟨_, eqr, by (with_reducible repeat (first | apply Kd.R_alloc | apply Kd.R_drewN | apply Kd.R_drew)); exact Kd.R_mono HL806_0.out (fun _ hk => trivial), IsS108.at HI0, atB HB, atK HK⟩
   ·rw [if_neg c11] at H
    exact absurd H (by simp)
  ·rw [if_neg c10] at H
   exact absurd H (by simp)

noncomputable def spec_l1Cur_soughtRow.F (s0_0 : List Int) (s0_1 : Int) (s0_2 : Int) : Option (List Int × Int × Int) := lim fun k => spec_l1Cur_soughtRow.f k s0_0 s0_1 s0_2
theorem spec_l1Cur_soughtRow.F_lim (s0_0 : List Int) (s0_1 : Int) (s0_2 : Int) : Lim (fun k => spec_l1Cur_soughtRow.f k s0_0 s0_1 s0_2) (spec_l1Cur_soughtRow.F s0_0 s0_1 s0_2) := Lim.of fun k => spec_l1Cur_soughtRow.mono s0_0 s0_1 s0_2 k
theorem spec_l1Cur_soughtRow.F_eq (s0_0 : List Int) (s0_1 : Int) (s0_2 : Int) : spec_l1Cur_soughtRow.F s0_0 s0_1 s0_2 = ((spec_l1Cur_one.f s0_0 s0_1 s0_2 6).bind fun bt786 => (if bt786.1 = true then ((spec_l1Cur_row.F s0_0 bt786.2.1 bt786.2.2).bind fun bt789 => (some (bt789.1, bt789.2.1, bt789.2.2))) else ((spec_l1Cur_among.f s0_0 bt786.2.1 bt786.2.2 (([1, 4, 5, 4, 5, 8] : List Int))).bind fun bt797 => ((spec_seSkolem.f bt797.1 60).bind fun t800 => ((spec_l1Cur_pick.f s0_0 bt797.2.1 bt797.2.2 (t800.length : Int)).bind fun bt803 => (if 0 ≤ bt803.1 then (if bt803.1 < (t800.length : Int) then ((spec_l1Cur_one.f s0_0 bt803.2.1 bt803.2.2 3).bind fun bt807 => (if bt807.1 = true then ((spec_roBack.F (rd_L2 t800 bt803.1)).bind fun t810 => (some (t810, bt807.2.1, bt807.2.2))) else (some (rd_L2 t800 bt803.1, bt807.2.1, bt807.2.2)))) else (none)) else (none))))))) :=
 Lim.unique (spec_l1Cur_soughtRow.F_lim s0_0 s0_1 s0_2) (by
  unfold spec_l1Cur_soughtRow.f
  repeat' (first | (with_reducible first | exact Lim.const _ | exact spec_l1Cur_row.F_lim _ _ _ | exact spec_roBack.F_lim _ | refine Lim.ite ?_ ?_ | refine Lim.bind ?_ (fun _ => ?_))))

end Go.Proofs.Ytaohgllnoomaeaa.Fn
namespace Go.Proofs.Ytaohgllnoomaeaa.Fn
open Go.RowKit Go.Proofs.YtaohgllnoomaeaaW.PrintWords Go.Proofs.YtaohgllnoomaeaaW.PrintLast Go.Proofs.YtaohgllnoomaeaaW.PrintMore
attribute [local go_sem] max2_int min2_int max_two min_two max_three min_three max_four min_four   -- for this text's walks alone
set_option linter.unusedVariables false
set_option linter.unusedSimpArgs false

/-! ### spec_l1Least: function 227 -/
def spec_l1Least.f (a0 : Int) (a1 : Int) : Option (Int) := if a0 < a1 then (some a0) else (some a1)
set_option maxHeartbeats 8000000 in
set_option maxRecDepth 100000 in
theorem spec_l1Least.calls (a0 : Int) (a1 : Int) (r : Int) (w : World) (h : spec_l1Least.f a0 a1 = some r) :
  Calls Try.prog 227 #[.int .i64 a0, .int .i64 a1] w fun e w' => e = .returned (.int .i64 r) ∧ Drawn0 w w' := by
 have H := h
 unfold spec_l1Least.f at H
 clear h
 by_cases c3 : a0 < a1
 ·rw [if_pos c3] at H
  have c3b0 : decide (a0 < a1) = true := decide_eq_true c3
  clear c3
  obtain rfl := Option.some.inj H
  go_enter Try.func227, Try.ntmps227
  go_wp2
  go_ret
  exact ⟨by first | rfl | (simp; done) | (simp [*]; done), by repeat (first | exact Drawn0.refl _ | apply Drawn0.step)⟩
 ·rw [if_neg c3] at H
  have c3b0 : decide (a0 < a1) = false := decide_eq_false c3
  clear c3
  obtain rfl := Option.some.inj H
  go_enter Try.func227, Try.ntmps227
  go_wp2
  go_ret
  exact ⟨by first | rfl | (simp; done) | (simp [*]; done), by repeat (first | exact Drawn0.refl _ | apply Drawn0.step)⟩


end Go.Proofs.Ytaohgllnoomaeaa.Fn
namespace Go.Proofs.Ytaohgllnoomaeaa.Fn
open Go.RowKit Go.Proofs.YtaohgllnoomaeaaW.PrintWords Go.Proofs.YtaohgllnoomaeaaW.PrintLast Go.Proofs.YtaohgllnoomaeaaW.PrintMore
attribute [local go_sem] max2_int min2_int max_two min_two max_three min_three max_four min_four   -- for this text's walks alone
set_option linter.unusedVariables false
set_option linter.unusedSimpArgs false

/-! ### spec_l1Cur_extended: function 223 -/
def spec_l1Cur_extended.j0 : Nat → Int → Int → List Int → Int → Int → Option (List Int × Int × Int)
 | 0, _, _, _, _, _ => none
 | k + 1, x3, x4, x1000, x1001, x1002 => (spec_seAll.f 1 x3 0 x4 40).bind fun t1160 => (if (t1160.length : Int) = 0 then ((spec_l1Cur_row.f k x1000 x1001 x1002).bind fun bt1163 => (some (bt1163.1, bt1163.2.1, bt1163.2.2))) else ((spec_l1Cur_pick.f x1000 x1001 x1002 (t1160.length : Int)).bind fun bt1168 => (if 0 ≤ bt1168.1 then (if bt1168.1 < (t1160.length : Int) then (some (rd_L2 t1160 bt1168.1, bt1168.2.1, bt1168.2.2)) else (none)) else (none))))
def spec_l1Cur_extended.f (k : Nat) (s0_0 : List Int) (s0_1 : Int) (s0_2 : Int) : Option (List Int × Int × Int) := (spec_l1Cur_one.f s0_0 s0_1 s0_2 6).bind fun bt1145 => (if bt1145.1 = true then ((spec_l1Cur_row.f k s0_0 bt1145.2.1 bt1145.2.2).bind fun bt1148 => (some (bt1148.1, bt1148.2.1, bt1148.2.2))) else ((spec_l1Cur_pick.f s0_0 bt1145.2.1 bt1145.2.2 5).bind fun bt1153 => ((spec_l1Cur_pick.f s0_0 bt1153.2.1 bt1153.2.2 (wrap64 ((wrap64 (1 + bt1153.1)) + 1))).bind fun bt1156 => (if (Int.tmod (wrap64 (1 + bt1153.1)) 4) ≤ 1 then (spec_l1Cur_extended.j0 k (wrap64 (1 + bt1153.1)) (wrap64 (2 * bt1156.1)) s0_0 bt1156.2.1 bt1156.2.2) else ((spec_l1Least.f (wrap64 ((wrap64 (2 * (wrap64 (1 + bt1153.1)))) - 1)) (wrap64 ((wrap64 (2 * bt1156.1)) + 1))).bind fun t1159 => (spec_l1Cur_extended.j0 k (wrap64 (1 + bt1153.1)) t1159 s0_0 bt1156.2.1 bt1156.2.2))))))
theorem spec_l1Cur_extended.mono_l : ∀ k, (∀ y0 y1 y2 y3 y4, LeO (spec_l1Cur_extended.j0 k y0 y1 y2 y3 y4) (spec_l1Cur_extended.j0 (k + 1) y0 y1 y2 y3 y4))
 | 0 => fun _ _ _ _ _ r h => by simp [spec_l1Cur_extended.j0] at h
 | k + 1 => by
  have ih0 := spec_l1Cur_extended.mono_l k
  ·intro y0 y1 y2 y3 y4
   unfold spec_l1Cur_extended.j0
   repeat' (first | (with_reducible first | exact spec_l1Cur_row.mono _ _ _ _ | exact LeO.refl _ | exact LeO.none _ | refine LeO.ite ?_ ?_ | refine LeO.bind ?_ (fun _ => ?_)) | exact spec_l1Cur_row.mono _ _ _ _ | exact LeO.none _ | refine LeO.ite ?_ ?_ | refine LeO.bind ?_ (fun _ => ?_))
theorem spec_l1Cur_extended.mono : ∀ a0 a1 a2 k, LeO (spec_l1Cur_extended.f k a0 a1 a2) (spec_l1Cur_extended.f (k + 1) a0 a1 a2) := by
 intro a0 a1 a2 k
 have ih0 := spec_l1Cur_extended.mono_l k
 unfold spec_l1Cur_extended.f
 repeat' (first | (with_reducible first | exact ih0 _ _ _ _ _ | exact spec_l1Cur_row.mono _ _ _ _ | exact LeO.refl _ | exact LeO.none _ | refine LeO.ite ?_ ?_ | refine LeO.bind ?_ (fun _ => ?_)) | exact ih0 _ _ _ _ _ | exact spec_l1Cur_row.mono _ _ _ _ | exact LeO.none _ | refine LeO.ite ?_ ?_ | refine LeO.bind ?_ (fun _ => ?_))
set_option maxHeartbeats 8000000 in
set_option maxRecDepth 100000 in
theorem spec_l1Cur_extended.calls (k : Nat) (g : Nat) (s0_0 : List Int) (s0_1 : Int) (s0_2 : Int) (r1 : List Int) (r2 : Int) (r3 : Int) (w0 w : World) (hI : IsS108 w0 w g s0_0 s0_1 s0_2) (hB : Below w0.heap.size w0 w) (h : spec_l1Cur_extended.f k s0_0 s0_1 s0_2 = some (r1, r2, r3)) :
  Calls Try.prog 223 #[.pointer (some ⟨g, 0, none⟩)] w fun e w' => ∃ v0_ : Value, e = .returned (v0_) ∧ Kd.R (Kd.int .i64) 3 w' w.heap.size (fun _ => True) v0_ r1 ∧ IsS108 w0 w' g s0_0 r2 r3 ∧ Below w0.heap.size w0 w' ∧ KeepBut w w' g none := by
 have HI0 := Aside0.mk hI
 have HK := Aside0.mk (KeepBut.refl w g none)
 have HL := Aside0.mk hB.size
 clear hI
 have HW0 := Aside0.mk hB.size
 have HB := Aside0.mk hB
 clear hB
 have H := h
 unfold spec_l1Cur_extended.f at H
 clear h
 replace H := Option.bind_eq_some_iff.mp H
 obtain ⟨⟨t1145, t1146, t1147⟩, A20, H⟩ := H
 replace H : (if t1145 = true then ((spec_l1Cur_row.f k s0_0 t1146 t1147).bind fun bt1148 => (some (bt1148.1, bt1148.2.1, bt1148.2.2))) else ((spec_l1Cur_pick.f s0_0 t1146 t1147 5).bind fun bt1153 => ((spec_l1Cur_pick.f s0_0 bt1153.2.1 bt1153.2.2 (wrap64 ((wrap64 (1 + bt1153.1)) + 1))).bind fun bt1156 => (if (Int.tmod (wrap64 (1 + bt1153.1)) 4) ≤ 1 then (spec_l1Cur_extended.j0 k (wrap64 (1 + bt1153.1)) (wrap64 (2 * bt1156.1)) s0_0 bt1156.2.1 bt1156.2.2) else ((spec_l1Least.f (wrap64 ((wrap64 (2 * (wrap64 (1 + bt1153.1)))) - 1)) (wrap64 ((wrap64 (2 * bt1156.1)) + 1))).bind fun t1159 => (spec_l1Cur_extended.j0 k (wrap64 (1 + bt1153.1)) t1159 s0_0 bt1156.2.1 bt1156.2.2)))))) = some (r1, r2, r3) := H
 have A2 := Aside0.mk A20
 clear A20
 by_cases c3 : t1145 = true
 ·subst c3
  have H1 : ((spec_l1Cur_row.f k s0_0 t1146 t1147).bind fun bt1148 => (some (bt1148.1, bt1148.2.1, bt1148.2.2))) = some (r1, r2, r3) := by rw [if_pos rfl] at H; exact H
  clear H
  have H := H1
  clear H1
  replace H := Option.bind_eq_some_iff.mp H
  obtain ⟨⟨t1148, t1151, t1152⟩, A40, H⟩ := H
  replace H : (some (t1148, t1151, t1152)) = some (r1, r2, r3) := H
  have A4 := Aside0.mk A40
  clear A40
  simp only [Option.some.injEq, Prod.mk.injEq] at H
  obtain ⟨rfl, rfl, rfl⟩ := H
  go_enter Try.func223, Try.ntmps223
  go_wp2_with (first | ((with_reducible refine gate_callee (f := 170) rfl ?_); refine goesA (some 7) Try.func170 #[.pointer (some ⟨g, 0, none⟩), .int .i64 6] ?_; (with_reducible refine (spec_l1Cur_one.calls g s0_0 s0_1 s0_2 6 true t1146 t1147 w0 _ ?side1 ?side2 A2.out).mono ?_); (case side1 => exact IsS108.at HI0); (case side2 => exact atB HB); rintro e w5 ⟨rfl, hi, hb, hk⟩; refine ⟨_, rfl, ?_⟩; replace HK := upK HK hk; replace HB := Aside0.mk (hb); replace HI0 := Aside0.mk (hi); (try clear hb); (try clear hb2); (try clear hk); (try clear hi)) | ((with_reducible refine gate_callee (f := 188) rfl ?_); refine goesA (some 9) Try.func188 #[.pointer (some ⟨g, 0, none⟩)] ?_; (with_reducible refine (spec_l1Cur_row.calls k g s0_0 t1146 t1147 t1148 t1151 t1152 w0 _ ?side1 ?side2 A4.out).mono ?_); (case side1 => exact IsS108.at HI0); (case side2 => exact atB HB); rintro e w6 ⟨v1149, rfl, ho0, hi, hb, hk⟩; refine ⟨_, rfl, ?_⟩; have HO1150 := lowKR ho0 HK; replace HK := upK HK hk; replace HB := Aside0.mk (hb); replace HI0 := Aside0.mk (hi); (try clear hb); (try clear hb2); (try clear hk); (try clear hi); (try clear ho0)))
  go_ret
  exact ⟨_, eqr, atR HO1150, IsS108.at HI0, atB HB, atK HK⟩
 ·replace c3 := Bool.eq_false_iff.mpr c3
  subst c3
  have H1 : ((spec_l1Cur_pick.f s0_0 t1146 t1147 5).bind fun bt1153 => ((spec_l1Cur_pick.f s0_0 bt1153.2.1 bt1153.2.2 (wrap64 ((wrap64 (1 + bt1153.1)) + 1))).bind fun bt1156 => (if (Int.tmod (wrap64 (1 + bt1153.1)) 4) ≤ 1 then (spec_l1Cur_extended.j0 k (wrap64 (1 + bt1153.1)) (wrap64 (2 * bt1156.1)) s0_0 bt1156.2.1 bt1156.2.2) else ((spec_l1Least.f (wrap64 ((wrap64 (2 * (wrap64 (1 + bt1153.1)))) - 1)) (wrap64 ((wrap64 (2 * bt1156.1)) + 1))).bind fun t1159 => (spec_l1Cur_extended.j0 k (wrap64 (1 + bt1153.1)) t1159 s0_0 bt1156.2.1 bt1156.2.2))))) = some (r1, r2, r3) := by rw [if_neg (show ¬ (false = true) by decide)] at H; exact H
  clear H
  have H := H1
  clear H1
  replace H := Option.bind_eq_some_iff.mp H
  obtain ⟨⟨t1153, t1154, t1155⟩, A70, H⟩ := H
  replace H : ((spec_l1Cur_pick.f s0_0 t1154 t1155 (wrap64 ((wrap64 (1 + t1153)) + 1))).bind fun bt1156 => (if (Int.tmod (wrap64 (1 + t1153)) 4) ≤ 1 then (spec_l1Cur_extended.j0 k (wrap64 (1 + t1153)) (wrap64 (2 * bt1156.1)) s0_0 bt1156.2.1 bt1156.2.2) else ((spec_l1Least.f (wrap64 ((wrap64 (2 * (wrap64 (1 + t1153)))) - 1)) (wrap64 ((wrap64 (2 * bt1156.1)) + 1))).bind fun t1159 => (spec_l1Cur_extended.j0 k (wrap64 (1 + t1153)) t1159 s0_0 bt1156.2.1 bt1156.2.2)))) = some (r1, r2, r3) := H
  have A7 := Aside0.mk A70
  clear A70
  replace H := Option.bind_eq_some_iff.mp H
  obtain ⟨⟨t1156, t1157, t1158⟩, A80, H⟩ := H
  replace H : (if (Int.tmod (wrap64 (1 + t1153)) 4) ≤ 1 then (spec_l1Cur_extended.j0 k (wrap64 (1 + t1153)) (wrap64 (2 * t1156)) s0_0 t1157 t1158) else ((spec_l1Least.f (wrap64 ((wrap64 (2 * (wrap64 (1 + t1153)))) - 1)) (wrap64 ((wrap64 (2 * t1156)) + 1))).bind fun t1159 => (spec_l1Cur_extended.j0 k (wrap64 (1 + t1153)) t1159 s0_0 t1157 t1158))) = some (r1, r2, r3) := H
  have A8 := Aside0.mk A80
  clear A80
  have HC9 := Aside0.mk H
  clear H
  go_enter Try.func223, Try.ntmps223
  go_upto_if 19 with (first | ((with_reducible refine gate_callee (f := 170) rfl ?_); refine goesA (some 7) Try.func170 #[.pointer (some ⟨g, 0, none⟩), .int .i64 6] ?_; (with_reducible refine (spec_l1Cur_one.calls g s0_0 s0_1 s0_2 6 false t1146 t1147 w0 _ ?side1 ?side2 A2.out).mono ?_); (case side1 => exact IsS108.at HI0); (case side2 => exact atB HB); rintro e w10 ⟨rfl, hi, hb, hk⟩; refine ⟨_, rfl, ?_⟩; replace HK := upK HK hk; replace HB := Aside0.mk (hb); replace HI0 := Aside0.mk (hi); (try clear hb); (try clear hb2); (try clear hk); (try clear hi)) | ((with_reducible refine gate_callee (f := 171) rfl ?_); refine goesA (some 11) Try.func171 #[.pointer (some ⟨g, 0, none⟩), .int .i64 5] ?_; (with_reducible refine (spec_l1Cur_pick.calls g s0_0 t1146 t1147 5 t1153 t1154 t1155 w0 _ ?side1 ?side2 A7.out).mono ?_); (case side1 => exact IsS108.at HI0); (case side2 => exact atB HB); rintro e w11 ⟨rfl, hi, hb, hk⟩; refine ⟨_, rfl, ?_⟩; replace HK := upK HK hk; replace HB := Aside0.mk (hb); replace HI0 := Aside0.mk (hi); (try clear hb); (try clear hb2); (try clear hk); (try clear hi)) | ((with_reducible refine gate_callee (f := 171) rfl ?_); refine goesA (some 16) Try.func171 #[.pointer (some ⟨g, 0, none⟩), .int .i64 (wrap64 ((wrap64 (1 + t1153)) + 1))] ?_; (with_reducible refine (spec_l1Cur_pick.calls g s0_0 t1154 t1155 (wrap64 ((wrap64 (1 + t1153)) + 1)) t1156 t1157 t1158 w0 _ ?side1 ?side2 A8.out).mono ?_); (case side1 => exact IsS108.at HI0); (case side2 => exact atB HB); rintro e w12 ⟨rfl, hi, hb, hk⟩; refine ⟨_, rfl, ?_⟩; replace HK := upK HK hk; replace HB := Aside0.mk (hb); replace HI0 := Aside0.mk (hi); (try clear hb); (try clear hb2); (try clear hk); (try clear hi)))
  (try simp only [Act.put, List.setIfInBounds_toArray, List.set_cons_zero, List.set_cons_succ])
  go_cut [4] (fun v4 wc => ∃ (kq : Nat) (x4_8 : Int), v4 = .int .i64 x4_8 ∧ Aside0 (spec_l1Cur_extended.j0 kq (wrap64 (1 + t1153)) x4_8 s0_0 t1157 t1158 = some (r1, r2, r3)) ∧ Aside0 (kq ≤ k) ∧ Aside0 (IsS108 w0 wc g s0_0 t1157 t1158) ∧ Aside0 (KeepBut w wc g none) ∧ Aside0 (Below w0.heap.size w0 wc))
  case first =>
   have H := HC9.out
   clear HC9
   by_cases c13 : (Int.tmod (wrap64 (1 + t1153)) 4) ≤ 1
   ·rw [if_pos c13] at H
    have c13b0 : decide ((Int.tmod (wrap64 (1 + t1153)) 4) ≤ 1) = true := decide_eq_true c13
    clear c13
    (first | rw [c13b0] | (simp only [i64_w, i32_w]; rw [c13b0]) | skip)
    have H' := Aside0.mk H
    clear H
    go_wp2
    go_meet
    case rel => exact ⟨_, (wrap64 (2 * t1156)), eqd, H', ⟨leD⟩, ⟨IsS108.at HI0⟩, ⟨atK HK⟩, ⟨atB HB⟩⟩
   ·rw [if_neg c13] at H
    have c13b0 : decide ((Int.tmod (wrap64 (1 + t1153)) 4) ≤ 1) = false := decide_eq_false c13
    clear c13
    (first | rw [c13b0] | (simp only [i64_w, i32_w]; rw [c13b0]) | skip)
    replace H := Option.bind_eq_some_iff.mp H
    obtain ⟨t1159, A140, H⟩ := H
    replace H : (spec_l1Cur_extended.j0 k (wrap64 (1 + t1153)) t1159 s0_0 t1157 t1158) = some (r1, r2, r3) := H
    have A14 := Aside0.mk A140
    clear A140
    have H' := Aside0.mk H
    clear H
    go_wp2_with (first | ((with_reducible refine gate_callee (f := 227) rfl ?_); refine goesA (some 28) Try.func227 #[.int .i64 (wrap64 ((wrap64 (2 * (wrap64 (1 + t1153)))) - 1)), .int .i64 (wrap64 ((wrap64 (2 * t1156)) + 1))] ?_; (with_reducible refine (spec_l1Least.calls (wrap64 ((wrap64 (2 * (wrap64 (1 + t1153)))) - 1)) (wrap64 ((wrap64 (2 * t1156)) + 1)) t1159 _ A14.out).mono ?_); rintro e w' ⟨rfl, ⟨nd, rfl⟩⟩; refine ⟨_, rfl, ?_⟩))
    go_meet
    case rel => exact ⟨_, (t1159), eqd, H', ⟨leD⟩, ⟨IsS108.at HI0⟩, ⟨atK HK⟩, ⟨atB HB⟩⟩
  case rest =>
   clear HC9
   try clear c1
   try clear c2
   try clear p2
   try clear c3
   try clear p6
   try clear c13
   try clear c13b0
   obtain ⟨kq, x4_8, rfl, HA, HJ8, HI0, HK, HB⟩ := hcut
   cases kq with
   | zero => exact absurd HA.out (by simp [spec_l1Cur_extended.j0])
   | succ kj8 =>
    have H := HA.out
    clear HA
    simp only [spec_l1Cur_extended.j0] at H
    replace H := Option.bind_eq_some_iff.mp H
    obtain ⟨t1160, A150, H⟩ := H
    replace H : (if (t1160.length : Int) = 0 then ((spec_l1Cur_row.f kj8 s0_0 t1157 t1158).bind fun bt1163 => (some (bt1163.1, bt1163.2.1, bt1163.2.2))) else ((spec_l1Cur_pick.f s0_0 t1157 t1158 (t1160.length : Int)).bind fun bt1168 => (if 0 ≤ bt1168.1 then (if bt1168.1 < (t1160.length : Int) then (some (rd_L2 t1160 bt1168.1, bt1168.2.1, bt1168.2.2)) else (none)) else (none)))) = some (r1, r2, r3) := H
    have A15 := Aside0.mk A150
    clear A150
    by_cases c16 : (t1160.length : Int) = 0
    ·rw [if_pos c16] at H
     have c16b0 : ((t1160.length : Int) == 0) = true := beq_iff_eq.mpr c16
     have c16b1 : ((t1160.length : Int) != 0) = false := bne_eq_false_iff_eq.mpr c16
     clear c16
     replace H := Option.bind_eq_some_iff.mp H
     obtain ⟨⟨t1163, t1166, t1167⟩, A170, H⟩ := H
     replace H : (some (t1163, t1166, t1167)) = some (r1, r2, r3) := H
     have A17 := Aside0.mk A170
     clear A170
     simp only [Option.some.injEq, Prod.mk.injEq] at H
     obtain ⟨rfl, rfl, rfl⟩ := H
     go_wp2_with (first | ((with_reducible refine gate_callee (f := 221) rfl ?_); refine goesA (some 31) Try.func221 #[.int .i64 1, .int .i64 (wrap64 (1 + t1153)), .int .i64 0, .int .i64 x4_8, .int .i64 40] ?_; (with_reducible refine (spec_seAll.calls 1 (wrap64 (1 + t1153)) 0 x4_8 40 t1160 _ A15.out).mono ?_); rintro e w18 ⟨v1161, ⟨gS_, rfl, hcS_⟩, ho0, hb⟩; refine ⟨_, rfl, ?_⟩; have HO1162 := lowKS ho0 HK; replace HI0 := IsS108.up HI0 hb; replace HK := upKB HK hb; replace HB := upB HB hb; (try clear hb); (try clear hb2); (try clear hk); (try clear hi); (try clear ho0); obtain ⟨Ao19, co19, eo19⟩ := Kd.S_slice HO1162.out; subst eo19) | ((with_reducible refine gate_callee (f := 188) rfl ?_); refine goesA (some 39) Try.func188 #[.pointer (some ⟨g, 0, none⟩)] ?_; (with_reducible refine (spec_l1Cur_row.calls kj8 g s0_0 t1157 t1158 t1163 t1166 t1167 w0 _ ?side1 ?side2 A17.out).mono ?_); (case side1 => exact IsS108.at HI0); (case side2 => exact atB HB); rintro e w20 ⟨v1164, rfl, ho0, hi, hb, hk⟩; refine ⟨_, rfl, ?_⟩; have HO1165 := lowKR ho0 HK; replace HO1162 := IsS108.keepS HI0 HO1162 hk; replace HK := upK HK hk; replace HB := Aside0.mk (hb); replace HI0 := Aside0.mk (hi); (try clear hb); (try clear hb2); (try clear hk); (try clear hi); (try clear ho0)))
     go_ret
     exact ⟨_, eqr, atR HO1165, IsS108.at HI0, atB HB, atK HK⟩
    ·rw [if_neg c16] at H
     have c16b0 : ((t1160.length : Int) == 0) = false := beq_eq_false_iff_ne.mpr c16
     have c16b1 : ((t1160.length : Int) != 0) = true := bne_iff_ne.mpr c16
     have c16b2 : ¬ (t1160 = []) := fun h_ => c16 (by rw [h_]; rfl)
     replace H := Option.bind_eq_some_iff.mp H
     obtain ⟨⟨t1168, t1169, t1170⟩, A210, H⟩ := H
     replace H : (if 0 ≤ t1168 then (if t1168 < (t1160.length : Int) then (some (rd_L2 t1160 t1168, t1169, t1170)) else (none)) else (none)) = some (r1, r2, r3) := H
     have A21 := Aside0.mk A210
     clear A210
     by_cases c22 : 0 ≤ t1168
     ·rw [if_pos c22] at H
      have c22b0 : decide (0 ≤ t1168) = true := decide_eq_true c22
      clear c22
      by_cases c23 : t1168 < (t1160.length : Int)
      ·rw [if_pos c23] at H
       have c23b0 : decide (t1168 < (t1160.length : Int)) = true := decide_eq_true c23
       clear c23
       simp only [Option.some.injEq, Prod.mk.injEq] at H
       obtain ⟨rfl, rfl, rfl⟩ := H
       go_wp2_with (first | ((with_reducible refine gate_callee (f := 221) rfl ?_); refine goesA (some 31) Try.func221 #[.int .i64 1, .int .i64 (wrap64 (1 + t1153)), .int .i64 0, .int .i64 x4_8, .int .i64 40] ?_; (with_reducible refine (spec_seAll.calls 1 (wrap64 (1 + t1153)) 0 x4_8 40 t1160 _ A15.out).mono ?_); rintro e w24 ⟨v1161, ⟨gS_, rfl, hcS_⟩, ho0, hb⟩; refine ⟨_, rfl, ?_⟩; have HO1162 := lowKS ho0 HK; replace HI0 := IsS108.up HI0 hb; replace HK := upKB HK hb; replace HB := upB HB hb; (try clear hb); (try clear hb2); (try clear hk); (try clear hi); (try clear ho0); obtain ⟨Ao25, co25, eo25⟩ := Kd.S_slice HO1162.out; subst eo25) | ((with_reducible refine gate_callee (f := 171) rfl ?_); refine goesA (some 44) Try.func171 #[.pointer (some ⟨g, 0, none⟩), .int .i64 (t1160.length : Int)] ?_; (with_reducible refine (spec_l1Cur_pick.calls g s0_0 t1157 t1158 (t1160.length : Int) t1168 t1169 t1170 w0 _ ?side1 ?side2 A21.out).mono ?_); (case side1 => exact IsS108.at HI0); (case side2 => exact atB HB); rintro e w26 ⟨rfl, hi, hb, hk⟩; refine ⟨_, rfl, ?_⟩; replace HO1162 := IsS108.keepS HI0 HO1162 hk; replace HK := upK HK hk; replace HB := Aside0.mk (hb); replace HI0 := Aside0.mk (hi); (try clear hb); (try clear hb2); (try clear hk); (try clear hi); have p1171 : 0 ≤ (t1168 : Int) := ofd; have q1171 : t1168 < (t1160.length : Int) := ofd; obtain ⟨ad1171, A1171_0, c1171_0, e1171, hx1171_0, hl1171_0, hi1171_0⟩ := at_L2 (Kd.S_reads' HO1162.out).2.2 t1168 p1171 q1171; cases e1171; obtain ⟨ce1171, hce1171, hMe1171, hcc1171⟩ := Kd.S_get HO1162.out [] t1168 p1171 (by first | exact q1171 | exact of_decide_eq_true (by first | (with_reducible assumption) | assumption) | (have e_ := (Kd.S_reads' HO1162.out).1; omega)); obtain ⟨ve1171_0, rfl, ge1171_0⟩ := hMe1171; have hv1171_0 := hcc1171 0 _ rfl; rw [Nat.add_zero, show ((Kd.slice 3 (Kd.int .i64))).sz = 1 from rfl, Nat.mul_one] at hv1171_0; replace hv1171_0 := Option.some.inj (hv1171_0.symm.trans hx1171_0); rw [hv1171_0] at ge1171_0; have HL1171_0 := Aside0.mk (show Kd.R (Kd.int .i64) 3 _ _ _ _ (rd_L2 t1160 t1168) from ge1171_0); clear hv1171_0 ge1171_0; clear hcc1171 hce1171; have HR1171_0 := Aside0.mk hi1171_0; have HC1171_0 := Aside0.mk hl1171_0; clear hi1171_0 hl1171_0; replace p1171 := eq_true p1171; replace q1171 := eq_true q1171))
       go_ret
       exact ⟨_, eqr, by (with_reducible repeat (first | apply Kd.R_alloc | apply Kd.R_drewN | apply Kd.R_drew)); exact Kd.R_mono HL1171_0.out (fun _ hk => trivial), IsS108.at HI0, atB HB, atK HK⟩
      ·rw [if_neg c23] at H
       exact absurd H (by simp)
     ·rw [if_neg c22] at H
      exact absurd H (by simp)

noncomputable def spec_l1Cur_extended.J0 (x3 : Int) (x4 : Int) (x1000 : List Int) (x1001 : Int) (x1002 : Int) : Option (List Int × Int × Int) := lim fun k => spec_l1Cur_extended.j0 k x3 x4 x1000 x1001 x1002
theorem spec_l1Cur_extended.J0_lim (x3 : Int) (x4 : Int) (x1000 : List Int) (x1001 : Int) (x1002 : Int) : Lim (fun k => spec_l1Cur_extended.j0 k x3 x4 x1000 x1001 x1002) (spec_l1Cur_extended.J0 x3 x4 x1000 x1001 x1002) := Lim.of fun k => (spec_l1Cur_extended.mono_l k) x3 x4 x1000 x1001 x1002
noncomputable def spec_l1Cur_extended.F (s0_0 : List Int) (s0_1 : Int) (s0_2 : Int) : Option (List Int × Int × Int) := lim fun k => spec_l1Cur_extended.f k s0_0 s0_1 s0_2
theorem spec_l1Cur_extended.F_lim (s0_0 : List Int) (s0_1 : Int) (s0_2 : Int) : Lim (fun k => spec_l1Cur_extended.f k s0_0 s0_1 s0_2) (spec_l1Cur_extended.F s0_0 s0_1 s0_2) := Lim.of fun k => spec_l1Cur_extended.mono s0_0 s0_1 s0_2 k
theorem spec_l1Cur_extended.J0_eq (x3 : Int) (x4 : Int) (x1000 : List Int) (x1001 : Int) (x1002 : Int) : spec_l1Cur_extended.J0 x3 x4 x1000 x1001 x1002 = ((spec_seAll.f 1 x3 0 x4 40).bind fun t1160 => (if (t1160.length : Int) = 0 then ((spec_l1Cur_row.F x1000 x1001 x1002).bind fun bt1163 => (some (bt1163.1, bt1163.2.1, bt1163.2.2))) else ((spec_l1Cur_pick.f x1000 x1001 x1002 (t1160.length : Int)).bind fun bt1168 => (if 0 ≤ bt1168.1 then (if bt1168.1 < (t1160.length : Int) then (some (rd_L2 t1160 bt1168.1, bt1168.2.1, bt1168.2.2)) else (none)) else (none))))) :=
 Lim.step (f := fun k => spec_l1Cur_extended.j0 (k + 1) x3 x4 x1000 x1001 x1002) (spec_l1Cur_extended.J0_lim x3 x4 x1000 x1001 x1002) (fun _ => rfl) (by
  simp only [spec_l1Cur_extended.j0]
  repeat' (first | (with_reducible first | exact Lim.const _ | exact spec_l1Cur_row.F_lim _ _ _ | refine Lim.ite ?_ ?_ | refine Lim.bind ?_ (fun _ => ?_))))
theorem spec_l1Cur_extended.F_eq (s0_0 : List Int) (s0_1 : Int) (s0_2 : Int) : spec_l1Cur_extended.F s0_0 s0_1 s0_2 = ((spec_l1Cur_one.f s0_0 s0_1 s0_2 6).bind fun bt1145 => (if bt1145.1 = true then ((spec_l1Cur_row.F s0_0 bt1145.2.1 bt1145.2.2).bind fun bt1148 => (some (bt1148.1, bt1148.2.1, bt1148.2.2))) else ((spec_l1Cur_pick.f s0_0 bt1145.2.1 bt1145.2.2 5).bind fun bt1153 => ((spec_l1Cur_pick.f s0_0 bt1153.2.1 bt1153.2.2 (wrap64 ((wrap64 (1 + bt1153.1)) + 1))).bind fun bt1156 => (if (Int.tmod (wrap64 (1 + bt1153.1)) 4) ≤ 1 then (spec_l1Cur_extended.J0 (wrap64 (1 + bt1153.1)) (wrap64 (2 * bt1156.1)) s0_0 bt1156.2.1 bt1156.2.2) else ((spec_l1Least.f (wrap64 ((wrap64 (2 * (wrap64 (1 + bt1153.1)))) - 1)) (wrap64 ((wrap64 (2 * bt1156.1)) + 1))).bind fun t1159 => (spec_l1Cur_extended.J0 (wrap64 (1 + bt1153.1)) t1159 s0_0 bt1156.2.1 bt1156.2.2))))))) :=
 Lim.unique (spec_l1Cur_extended.F_lim s0_0 s0_1 s0_2) (by
  unfold spec_l1Cur_extended.f
  repeat' (first | (with_reducible first | exact Lim.const _ | exact spec_l1Cur_extended.J0_lim _ _ _ _ _ | exact spec_l1Cur_row.F_lim _ _ _ | refine Lim.ite ?_ ?_ | refine Lim.bind ?_ (fun _ => ?_))))

end Go.Proofs.Ytaohgllnoomaeaa.Fn
