/- The machine's side and plain lemmas for FnHolesAnywhere: texts of this session, merged by its program (part 3). -/
import Derived.Test.YtaohgllnoomaeaaMFnHolesAnywhere0
import Derived.Test.YtaohgllnoomaeaaMFnHolesAnywhere1
import Derived.Test.YtaohgllnoomaeaaMFnHolesAnywhere2
namespace Go.Proofs.Ytaohgllnoomaeaa.Fn
open Go.RowKit Go.Proofs.YtaohgllnoomaeaaW.PrintWords Go.Proofs.YtaohgllnoomaeaaW.PrintLast Go.Proofs.YtaohgllnoomaeaaW.PrintMore
attribute [local go_sem] max2_int min2_int max_two min_two max_three min_three max_four min_four   -- for this text's walks alone
set_option linter.unusedVariables false
set_option linter.unusedSimpArgs false

/-! ### spec_DrawSkolemOfExtended: function 116 -/
def spec_DrawSkolemOfExtended.f (k : Nat) (l0 : List Int) : Option (List Int) := (spec_l1Cur_pick.f l0 0 0 4).bind fun bt1173 => (if bt1173.1 = 0 then ((some (([0] : List Int) : List Int)).bind fun y1176 => ((spec_l1Cur_soughtRow.f k l0 bt1173.2.1 bt1173.2.2).bind fun bt1179 => (if y1176.length + bt1179.1.length < 17592186044416 then (some (y1176 ++ bt1179.1)) else (none)))) else (if bt1173.1 = 1 then ((spec_l1Cur_soughtRow.f k l0 bt1173.2.1 bt1173.2.2).bind fun bt1187 => ((spec_l1Own.f bt1187.1).bind fun t1192 => (if t1192.length < 17592186044416 then (some (t1192 ++ [0])) else (none)))) else ((spec_l1Cur_extended.f k l0 bt1173.2.1 bt1173.2.2).bind fun bt1198 => (some bt1198.1))))
theorem spec_DrawSkolemOfExtended.mono : ∀ a0 k, LeO (spec_DrawSkolemOfExtended.f k a0) (spec_DrawSkolemOfExtended.f (k + 1) a0) := by
 intro a0 k
 unfold spec_DrawSkolemOfExtended.f
 repeat' (first | (with_reducible first | exact spec_l1Cur_extended.mono _ _ _ _ | exact spec_l1Cur_soughtRow.mono _ _ _ _ | exact LeO.refl _ | exact LeO.none _ | refine LeO.ite ?_ ?_ | refine LeO.bind ?_ (fun _ => ?_)) | exact spec_l1Cur_extended.mono _ _ _ _ | exact spec_l1Cur_soughtRow.mono _ _ _ _ | exact LeO.none _ | refine LeO.ite ?_ ?_ | refine LeO.bind ?_ (fun _ => ?_))
set_option maxHeartbeats 8000000 in
set_option maxRecDepth 100000 in
theorem spec_DrawSkolemOfExtended.calls (k : Nat) (A0 : Option Addr) (c0 : Nat) (l0 : List Int) (r : List Int) (w : World) (hr0 : Kd.C (Kd.int .u8) w A0 l0.length l0) (hc0 : l0.length ≤ c0) (h : spec_DrawSkolemOfExtended.f k l0 = some r) :
  Calls Try.prog 116 #[.slice A0 l0.length c0] w fun e w' => ∃ v0_ : Value, e = .returned (v0_) ∧ Kd.R (Kd.int .i64) 3 w' w.heap.size (fun _ => True) v0_ r ∧ Below w.heap.size w w' := by
 have hu108 := Try.underlying108
 have HR0 := Aside0.mk hr0
 have HC0 := Aside0.mk hc0
 clear hr0 hc0
 have HB := Aside0.mk (Below.refl w.heap.size w)
 have H := h
 unfold spec_DrawSkolemOfExtended.f at H
 clear h
 replace H := Option.bind_eq_some_iff.mp H
 obtain ⟨⟨t1173, t1174, t1175⟩, A20, H⟩ := H
 replace H : (if t1173 = 0 then ((some (([0] : List Int) : List Int)).bind fun y1176 => ((spec_l1Cur_soughtRow.f k l0 t1174 t1175).bind fun bt1179 => (if y1176.length + bt1179.1.length < 17592186044416 then (some (y1176 ++ bt1179.1)) else (none)))) else (if t1173 = 1 then ((spec_l1Cur_soughtRow.f k l0 t1174 t1175).bind fun bt1187 => ((spec_l1Own.f bt1187.1).bind fun t1192 => (if t1192.length < 17592186044416 then (some (t1192 ++ [0])) else (none)))) else ((spec_l1Cur_extended.f k l0 t1174 t1175).bind fun bt1198 => (some bt1198.1)))) = some r := H
 have A2 := Aside0.mk A20
 clear A20
 by_cases c3 : t1173 = 0
 ·rw [if_pos c3] at H
  have c3b0 : (t1173 == 0) = true := beq_iff_eq.mpr c3
  have c3b1 : (t1173 != 0) = false := bne_eq_false_iff_eq.mpr c3
  clear c3
  obtain ⟨y1176, hy1176⟩ : ∃ y_ : List Int, y_ = (([0] : List Int)) := ⟨_, rfl⟩
  replace H : ((spec_l1Cur_soughtRow.f k l0 t1174 t1175).bind fun bt1179 => (if y1176.length + bt1179.1.length < 17592186044416 then (some (y1176 ++ bt1179.1)) else (none))) = some r := by first | (rw [hy1176]; with_reducible exact H) | (have H2_ := (Option.bind_some _ _).symm.trans H; rw [hy1176]; with_reducible exact H2_) | (have H2_ := (Option.bind_some _ _).symm.trans H; with_reducible exact H2_) | with_reducible exact H | (rw [hy1176]; exact H) | exact H
  have Ny1176 := Aside0.mk hy1176
  clear hy1176
  replace H := Option.bind_eq_some_iff.mp H
  obtain ⟨⟨t1179, t1182, t1183⟩, A40, H⟩ := H
  replace H : (if y1176.length + t1179.length < 17592186044416 then (some (y1176 ++ t1179)) else (none)) = some r := H
  have A4 := Aside0.mk A40
  clear A40
  by_cases c5 : y1176.length + t1179.length < 17592186044416
  ·rw [if_pos c5] at H
   have LMc5 := Aside0.mk c5
   clear c5
   obtain ⟨y1184, hy1184⟩ : ∃ y_ : List Int, y_ = (y1176 ++ t1179) := ⟨_, rfl⟩
   replace H : (some y1184) = some r := by first | (rw [hy1184]; with_reducible exact H) | (have H2_ := (Option.bind_some _ _).symm.trans H; rw [hy1184]; with_reducible exact H2_) | (have H2_ := (Option.bind_some _ _).symm.trans H; with_reducible exact H2_) | with_reducible exact H | (rw [hy1184]; exact H) | exact H
   have Ny1184 := Aside0.mk hy1184
   clear hy1184
   obtain rfl := Option.some.inj H
   go_enter Try.func116, Try.ntmps116
   go_wp2_with (first | ((with_reducible refine gate_dst (N := 6) rfl ?_); refine box_event ?hg (N := 6) ?hd (cs := #[.slice A0 l0.length c0, .int .i64 0, .int .u64 0]) (t := 108) ?hr ?_; (case hd => rfl); (case hg => rfl); (case hr => first | (go_simp; done) | (go_simp; rfl)); intro gb1172 hg w6 hbox hb; have HI1172 := Aside0.mk ((⟨_, _, hbox, (by rw [hg]; exact (szB HB) : w.heap.size ≤ gb1172), HR0.out⟩ : IsS108 w w6 gb1172 l0 0 0)); replace HB := upB HB hb; clear hb hbox hg) | ((with_reducible refine gate_callee (f := 171) rfl ?_); refine goesA (some 8) Try.func171 #[.pointer (some ⟨gb1172, 0, none⟩), .int .i64 4] ?_; (with_reducible refine (spec_l1Cur_pick.calls gb1172 l0 0 0 4 t1173 t1174 t1175 w _ ?side1 ?side2 A2.out).mono ?_); (case side1 => exact IsS108.at HI1172); (case side2 => exact atB HB); rintro e w7 ⟨rfl, hi, hb, hk⟩; refine ⟨_, rfl, ?_⟩; replace HB := Aside0.mk (hb); replace HI1172 := Aside0.mk (hi); (try clear hb); (try clear hb2); (try clear hk); (try clear hi)) | ((with_reducible refine gate_dst (N := 11) rfl ?_); refine Kd.R_lit (Kd.int .i64) _ 3 ?hg (N := 11) ?hd (xs := ([0] : List Int)) (inner := [.int .i64 0]) (ok := fun _ => True) (okp := fun _ => True) ?hr ?hp (fun _ hk => hk) trivial (Below.refl _ _) (Nat.le_refl _) (by simp) ?_; (case hd => rfl); (case hg => rfl); (case hr => first | (go_simp; done) | (go_simp; rfl)); (case hp => exact repsI _); intro v1177 w8 ho9 hb hg_ hnew_; clear hg_ hnew_; (first | rw [← Ny1176.out] at ho9 | (simp only [Int.reduceToNat] at ho9; rw [← Ny1176.out] at ho9)); have HO1178 := lowR ho9 HB; replace HI1172 := IsS108.up HI1172 hb; replace HB := upB HB hb; clear hb ho9) | ((with_reducible refine gate_callee (f := 196) rfl ?_); refine goesA (some 13) Try.func196 #[.pointer (some ⟨gb1172, 0, none⟩)] ?_; (with_reducible refine (spec_l1Cur_soughtRow.calls k gb1172 l0 t1174 t1175 t1179 t1182 t1183 w _ ?side1 ?side2 A4.out).mono ?_); (case side1 => exact IsS108.at HI1172); (case side2 => exact atB HB); rintro e w10 ⟨v1180, rfl, ho0, hi, hb, hk⟩; refine ⟨_, rfl, ?_⟩; have HO1181 := Aside0.mk (Kd.R_lower (Kd.R_new' ho0 (ltR HO1178)) (szB HB)); replace HO1178 := Aside0.mk (Kd.R_mono (Kd.R_told (Kd.R_oldK (IsS108.apart (show IsS108 w _ gb1172 l0 t1174 t1175 from IsS108.at HI1172) (atR HO1178) (by decide)) hk) (Kd.R_base ho0)) (fun _ h_ => h_.1)); replace HB := Aside0.mk (hb); replace HI1172 := Aside0.mk (hi); (try clear hb); (try clear hb2); (try clear hk); (try clear hi); (try clear ho0); obtain ⟨Ao12, co12, eo12⟩ := Kd.R_slice HO1181.out; subst eo12) | ((with_reducible refine gate_builtin (b := .append) (xs := #[.tmp 11, .tmp 13]) rfl ?_); at_builtin; refine Kd.R_append_rows (Kd.int .i64) (w0 := w) w.heap.size rfl (.tmp 11) (.tmp 13) 31 3 (.int .i64 0) 8 rfl Try.underlying31 info3 rfl (by decide) (by omega) v1177 y1176 t1179 _ _ _ (fun k_ => some k_ ≠ (.slice Ao12 t1179.length co12 : Value).ownBlock) (fun _ => False) rfl rfl ?aO ?aR (fun _ _ h => h) (fun _ h => h.elim) ?aF ?aB ?aS ?aL ?_; (case aR => exact atRC HO1181); (case aB => exact (atB HB)); (case aF => exact (fun k_ hk => Kd.fresh' (ltR HO1181) k_ hk)); (case aO => exact (by (with_reducible repeat (first | apply Kd.R_alloc | apply Kd.R_drewN | apply Kd.R_drew)); exact Kd.R_mono HO1178.out (fun _ hk => hk.2))); (case aS => exact (szB HB)); (case aL => have := LMc5.out; omega); intro v1185 w11 ho hb hg hat; rw [← Ny1184.out] at ho; have HO1186 := Aside0.mk (ho); replace HI1172 := Aside0.mk (IsS108.grown (IsS108.at HI1172) hg (IsS108.own_ne HI1172.out HO1178.out (by decide))); replace HO1181 := Aside0.mk (Kd.R_after (ok := (fun _ => True)) (atR HO1181) hg hat); replace HB := Aside0.mk (hb); clear HO1178; clear ho hb hg hat))
   go_ret
   exact ⟨_, eqr, by (with_reducible repeat (first | apply Kd.R_alloc | apply Kd.R_drewN | apply Kd.R_drew)); exact Kd.R_mono HO1186.out (fun _ hk => trivial), atB HB⟩
  ·rw [if_neg c5] at H
   exact absurd H (by simp)
 ·rw [if_neg c3] at H
  have c3b0 : (t1173 == 0) = false := beq_eq_false_iff_ne.mpr c3
  have c3b1 : (t1173 != 0) = true := bne_iff_ne.mpr c3
  by_cases c13 : t1173 = 1
  ·rw [if_pos c13] at H
   have c13b0 : (t1173 == 1) = true := beq_iff_eq.mpr c13
   have c13b1 : (t1173 != 1) = false := bne_eq_false_iff_eq.mpr c13
   clear c13
   replace H := Option.bind_eq_some_iff.mp H
   obtain ⟨⟨t1187, t1190, t1191⟩, A140, H⟩ := H
   replace H : ((spec_l1Own.f t1187).bind fun t1192 => (if t1192.length < 17592186044416 then (some (t1192 ++ [0])) else (none))) = some r := H
   have A14 := Aside0.mk A140
   clear A140
   replace H := Option.bind_eq_some_iff.mp H
   obtain ⟨t1192, A150, H⟩ := H
   replace H : (if t1192.length < 17592186044416 then (some (t1192 ++ [0])) else (none)) = some r := H
   have A15 := Aside0.mk A150
   clear A150
   by_cases c16 : t1192.length < 17592186044416
   ·rw [if_pos c16] at H
    have LMc16 := Aside0.mk c16
    clear c16
    obtain ⟨y1195, hy1195⟩ : ∃ y_ : List Int, y_ = (t1192 ++ [0]) := ⟨_, rfl⟩
    replace H : (some y1195) = some r := by first | (rw [hy1195]; with_reducible exact H) | (have H2_ := (Option.bind_some _ _).symm.trans H; rw [hy1195]; with_reducible exact H2_) | (have H2_ := (Option.bind_some _ _).symm.trans H; with_reducible exact H2_) | with_reducible exact H | (rw [hy1195]; exact H) | exact H
    have Ny1195 := Aside0.mk hy1195
    clear hy1195
    obtain rfl := Option.some.inj H
    go_enter Try.func116, Try.ntmps116
    go_wp2_with (first | ((with_reducible refine gate_dst (N := 6) rfl ?_); refine box_event ?hg (N := 6) ?hd (cs := #[.slice A0 l0.length c0, .int .i64 0, .int .u64 0]) (t := 108) ?hr ?_; (case hd => rfl); (case hg => rfl); (case hr => first | (go_simp; done) | (go_simp; rfl)); intro gb1172 hg w17 hbox hb; have HI1172 := Aside0.mk ((⟨_, _, hbox, (by rw [hg]; exact (szB HB) : w.heap.size ≤ gb1172), HR0.out⟩ : IsS108 w w17 gb1172 l0 0 0)); replace HB := upB HB hb; clear hb hbox hg) | ((with_reducible refine gate_callee (f := 171) rfl ?_); refine goesA (some 8) Try.func171 #[.pointer (some ⟨gb1172, 0, none⟩), .int .i64 4] ?_; (with_reducible refine (spec_l1Cur_pick.calls gb1172 l0 0 0 4 t1173 t1174 t1175 w _ ?side1 ?side2 A2.out).mono ?_); (case side1 => exact IsS108.at HI1172); (case side2 => exact atB HB); rintro e w18 ⟨rfl, hi, hb, hk⟩; refine ⟨_, rfl, ?_⟩; replace HB := Aside0.mk (hb); replace HI1172 := Aside0.mk (hi); (try clear hb); (try clear hb2); (try clear hk); (try clear hi)) | ((with_reducible refine gate_callee (f := 196) rfl ?_); refine goesA (some 18) Try.func196 #[.pointer (some ⟨gb1172, 0, none⟩)] ?_; (with_reducible refine (spec_l1Cur_soughtRow.calls k gb1172 l0 t1174 t1175 t1187 t1190 t1191 w _ ?side1 ?side2 A14.out).mono ?_); (case side1 => exact IsS108.at HI1172); (case side2 => exact atB HB); rintro e w19 ⟨v1188, rfl, ho0, hi, hb, hk⟩; refine ⟨_, rfl, ?_⟩; have HO1189 := lowR ho0 HB; replace HB := Aside0.mk (hb); replace HI1172 := Aside0.mk (hi); (try clear hb); (try clear hb2); (try clear hk); (try clear hi); (try clear ho0); obtain ⟨Ao20, co20, eo20⟩ := Kd.R_slice HO1189.out; subst eo20) | ((with_reducible refine gate_callee (f := 194) rfl ?_); refine goesA (some 19) Try.func194 #[.slice Ao20 t1187.length co20] ?_; (with_reducible refine (spec_l1Own.calls _ _ t1187 t1192 _ ?side1 ?side2 A15.out).mono ?_); (case side1 => exact atRC HO1189); (case side2 => exact (Kd.R_reads' HO1189.out).2.1); rintro e w21 ⟨v1193, rfl, ho0, hb⟩; refine ⟨_, rfl, ?_⟩; have HO1194 := Aside0.mk (Kd.R_lower (Kd.R_new' ho0 (ltR HO1189)) (szB HB)); replace HO1189 := eldRR HO1189 ho0 hb; replace HI1172 := IsS108.up HI1172 hb; replace HB := upB HB hb; (try clear hb); (try clear hb2); (try clear hk); (try clear hi); (try clear ho0)) | ((with_reducible refine gate_builtin (b := .append) (xs := #[.tmp 19, .tmp 20]) rfl ?_); at_builtin; refine Kd.R_append (Kd.int .i64) (w0 := w) w.heap.size rfl (.tmp 19) (.tmp 20) 31 3 (.int .i64 0) 8 rfl Try.underlying31 info3 rfl (by decide) (by omega) v1193 t1192 0 [.int .i64 0] (fun k_ => some k_ ≠ (.slice Ao20 t1187.length co20 : Value).ownBlock) (fun _ => False) rfl rfl ?aP (fun _ hk => hk.elim) ?aF ?aO ?aB ?aS ?aL ?_; (case aP => exact rfl); (case aB => exact (atB HB)); (case aF => exact (fun k_ hk => Kd.fresh' (ltR HO1189) k_ hk)); (case aO => exact (by (with_reducible repeat (first | apply Kd.R_alloc | apply Kd.R_drewN | apply Kd.R_drew)); exact Kd.R_mono HO1194.out (fun _ hk => hk.2))); (case aS => exact (szB HB)); (case aL => have := LMc16.out; omega); intro v1196 w22 ho hb hg hat; rw [← Ny1195.out] at ho; have HO1197 := Aside0.mk (ho); replace HI1172 := Aside0.mk (IsS108.grown (IsS108.at HI1172) hg (IsS108.own_ne HI1172.out HO1194.out (by decide))); replace HO1189 := Aside0.mk (Kd.R_after (ok := (fun _ => True)) (atR HO1189) hg hat); replace HB := Aside0.mk (hb); clear HO1194; clear ho hb hg hat))
    go_ret
    exact ⟨_, eqr, by (with_reducible repeat (first | apply Kd.R_alloc | apply Kd.R_drewN | apply Kd.R_drew)); exact Kd.R_mono HO1197.out (fun _ hk => trivial), atB HB⟩
   ·rw [if_neg c16] at H
    exact absurd H (by simp)
  ·rw [if_neg c13] at H
   have c13b0 : (t1173 == 1) = false := beq_eq_false_iff_ne.mpr c13
   have c13b1 : (t1173 != 1) = true := bne_iff_ne.mpr c13
   replace H := Option.bind_eq_some_iff.mp H
   obtain ⟨⟨t1198, t1201, t1202⟩, A230, H⟩ := H
   replace H : (some t1198) = some r := H
   have A23 := Aside0.mk A230
   clear A230
   obtain rfl := Option.some.inj H
   go_enter Try.func116, Try.ntmps116
   go_wp2_with (first | ((with_reducible refine gate_dst (N := 6) rfl ?_); refine box_event ?hg (N := 6) ?hd (cs := #[.slice A0 l0.length c0, .int .i64 0, .int .u64 0]) (t := 108) ?hr ?_; (case hd => rfl); (case hg => rfl); (case hr => first | (go_simp; done) | (go_simp; rfl)); intro gb1172 hg w24 hbox hb; have HI1172 := Aside0.mk ((⟨_, _, hbox, (by rw [hg]; exact (szB HB) : w.heap.size ≤ gb1172), HR0.out⟩ : IsS108 w w24 gb1172 l0 0 0)); replace HB := upB HB hb; clear hb hbox hg) | ((with_reducible refine gate_callee (f := 171) rfl ?_); refine goesA (some 8) Try.func171 #[.pointer (some ⟨gb1172, 0, none⟩), .int .i64 4] ?_; (with_reducible refine (spec_l1Cur_pick.calls gb1172 l0 0 0 4 t1173 t1174 t1175 w _ ?side1 ?side2 A2.out).mono ?_); (case side1 => exact IsS108.at HI1172); (case side2 => exact atB HB); rintro e w25 ⟨rfl, hi, hb, hk⟩; refine ⟨_, rfl, ?_⟩; replace HB := Aside0.mk (hb); replace HI1172 := Aside0.mk (hi); (try clear hb); (try clear hb2); (try clear hk); (try clear hi)) | ((with_reducible refine gate_callee (f := 223) rfl ?_); refine goesA (some 23) Try.func223 #[.pointer (some ⟨gb1172, 0, none⟩)] ?_; (with_reducible refine (spec_l1Cur_extended.calls k gb1172 l0 t1174 t1175 t1198 t1201 t1202 w _ ?side1 ?side2 A23.out).mono ?_); (case side1 => exact IsS108.at HI1172); (case side2 => exact atB HB); rintro e w26 ⟨v1199, rfl, ho0, hi, hb, hk⟩; refine ⟨_, rfl, ?_⟩; have HO1200 := lowR ho0 HB; replace HB := Aside0.mk (hb); replace HI1172 := Aside0.mk (hi); (try clear hb); (try clear hb2); (try clear hk); (try clear hi); (try clear ho0)))
   go_ret
   exact ⟨_, eqr, atR HO1200, atB HB⟩

noncomputable def spec_DrawSkolemOfExtended.F (l0 : List Int) : Option (List Int) := lim fun k => spec_DrawSkolemOfExtended.f k l0
theorem spec_DrawSkolemOfExtended.F_lim (l0 : List Int) : Lim (fun k => spec_DrawSkolemOfExtended.f k l0) (spec_DrawSkolemOfExtended.F l0) := Lim.of fun k => spec_DrawSkolemOfExtended.mono l0 k
theorem spec_DrawSkolemOfExtended.F_eq (l0 : List Int) : spec_DrawSkolemOfExtended.F l0 = ((spec_l1Cur_pick.f l0 0 0 4).bind fun bt1173 => (if bt1173.1 = 0 then ((some (([0] : List Int) : List Int)).bind fun y1176 => ((spec_l1Cur_soughtRow.F l0 bt1173.2.1 bt1173.2.2).bind fun bt1179 => (if y1176.length + bt1179.1.length < 17592186044416 then (some (y1176 ++ bt1179.1)) else (none)))) else (if bt1173.1 = 1 then ((spec_l1Cur_soughtRow.F l0 bt1173.2.1 bt1173.2.2).bind fun bt1187 => ((spec_l1Own.f bt1187.1).bind fun t1192 => (if t1192.length < 17592186044416 then (some (t1192 ++ [0])) else (none)))) else ((spec_l1Cur_extended.F l0 bt1173.2.1 bt1173.2.2).bind fun bt1198 => (some bt1198.1))))) :=
 Lim.unique (spec_DrawSkolemOfExtended.F_lim l0) (by
  unfold spec_DrawSkolemOfExtended.f
  repeat' (first | (with_reducible first | exact Lim.const _ | exact spec_l1Cur_extended.F_lim _ _ _ | exact spec_l1Cur_soughtRow.F_lim _ _ _ | refine Lim.ite ?_ ?_ | refine Lim.bind ?_ (fun _ => ?_))))

end Go.Proofs.Ytaohgllnoomaeaa.Fn
namespace Go.Proofs.Ytaohgllnoomaeaa.Fn
open Go.RowKit Go.Proofs.YtaohgllnoomaeaaW.PrintWords Go.Proofs.YtaohgllnoomaeaaW.PrintLast Go.Proofs.YtaohgllnoomaeaaW.PrintMore
attribute [local go_sem] max2_int min2_int max_two min_two max_three min_three max_four min_four   -- for this text's walks alone
set_option linter.unusedVariables false
set_option linter.unusedSimpArgs false

/-! ### spec_l1All: function 246 -/
def spec_l1All.l0 : Nat → Int → Int → List Int → Int → Int → Option (Bool)
 | 0, _, _, _, _, _ => none
 | k + 1, x1, x2, x9, x10, x11 => if x11 < x10 then (if 0 ≤ x11 then (if x11 < (x9.length : Int) then ((spec_l1In.f (rd x9 x11) x1 x2).bind fun t539 => (if t539 = true then (spec_l1All.l0 k x1 x2 x9 x10 (wrap64 (x11 + 1))) else (some false))) else (none)) else (none)) else (some true)
def spec_l1All.f (k : Nat) (l0 : List Int) (a1 : Int) (a2 : Int) : Option (Bool) := spec_l1All.l0 k a1 a2 l0 (l0.length : Int) 0
theorem spec_l1All.mono_l : ∀ k, (∀ y0 y1 y2 y3 y4, LeO (spec_l1All.l0 k y0 y1 y2 y3 y4) (spec_l1All.l0 (k + 1) y0 y1 y2 y3 y4))
 | 0 => fun _ _ _ _ _ r h => by simp [spec_l1All.l0] at h
 | k + 1 => by
  have ih0 := spec_l1All.mono_l k
  ·intro y0 y1 y2 y3 y4
   unfold spec_l1All.l0
   repeat' (first | (with_reducible first | exact ih0 _ _ _ _ _ | exact LeO.refl _ | exact LeO.none _ | refine LeO.ite ?_ ?_ | refine LeO.bind ?_ (fun _ => ?_)) | exact ih0 _ _ _ _ _ | exact LeO.none _ | refine LeO.ite ?_ ?_ | refine LeO.bind ?_ (fun _ => ?_))
theorem spec_l1All.mono : ∀ a0 a1 a2 k, LeO (spec_l1All.f k a0 a1 a2) (spec_l1All.f (k + 1) a0 a1 a2) := by
 intro a0 a1 a2 k
 have ih0 := spec_l1All.mono_l k
 unfold spec_l1All.f
 repeat' (first | (with_reducible first | exact ih0 _ _ _ _ _ | exact LeO.refl _ | exact LeO.none _ | refine LeO.ite ?_ ?_ | refine LeO.bind ?_ (fun _ => ?_)) | exact ih0 _ _ _ _ _ | exact LeO.none _ | refine LeO.ite ?_ ?_ | refine LeO.bind ?_ (fun _ => ?_))
set_option maxHeartbeats 8000000 in
set_option maxRecDepth 100000 in
theorem spec_l1All.calls (k : Nat) (A0 : Option Addr) (c0 : Nat) (l0 : List Int) (a1 : Int) (a2 : Int) (r : Bool) (w : World) (hr0 : Kd.C (Kd.int .i64) w A0 l0.length l0) (hc0 : l0.length ≤ c0) (h : spec_l1All.f k l0 a1 a2 = some r) :
  Calls Try.prog 246 #[.slice A0 l0.length c0, .int .i64 a1, .int .i64 a2] w fun e w' => e = .returned (.bool r) ∧ Drawn0 w w' := by
 have HR0 := Aside0.mk hr0
 have HC0 := Aside0.mk hc0
 clear hr0 hc0
 have H := h
 unfold spec_l1All.f at H
 clear h
 have H' := Aside0.mk H
 clear H
 go_enter Try.func246, Try.ntmps246
 go_wp2
 go_loopg [11] k (fun kq v11 w' => ∃ (x11_1 : Int), v11 = .int .i64 x11_1 ∧ Aside0 (spec_l1All.l0 kq a1 a2 l0 (l0.length : Int) x11_1 = some r) ∧ Aside0 (kq ≤ k) ∧ Drawn0 w w')
 case atStart => exact ⟨(0), eqd, H', ⟨Nat.le_refl _⟩, by repeat (first | exact Drawn0.refl _ | apply Drawn0.step)⟩
 case round =>
  clear H'
  try clear c2
  try clear p2
  obtain ⟨x11_1, rfl, HA, HK1, ⟨m1, rfl⟩⟩ := hrel
  cases gk with
  | zero => exact absurd HA.out (by simp [spec_l1All.l0])
  | succ k1 =>
   have H := HA.out
   clear HA
   simp only [spec_l1All.l0] at H
   by_cases c4 : x11_1 < (l0.length : Int)
   ·rw [if_pos c4] at H
    have c4b0 : decide (x11_1 < (l0.length : Int)) = true := decide_eq_true c4
    clear c4
    by_cases c5 : 0 ≤ x11_1
    ·rw [if_pos c5] at H
     have c5b0 : decide (0 ≤ x11_1) = true := decide_eq_true c5
     clear c5
     by_cases c6 : x11_1 < (l0.length : Int)
     ·rw [if_pos c6] at H
      have c6b0 : decide (x11_1 < (l0.length : Int)) = true := decide_eq_true c6
      clear c6
      replace H := Option.bind_eq_some_iff.mp H
      obtain ⟨t539, A70, H⟩ := H
      replace H : (if t539 = true then (spec_l1All.l0 k1 a1 a2 l0 (l0.length : Int) (wrap64 (x11_1 + 1))) else (some false)) = some r := H
      have A7 := Aside0.mk A70
      clear A70
      by_cases c8 : t539 = true
      ·subst c8
       have H1 : (spec_l1All.l0 k1 a1 a2 l0 (l0.length : Int) (wrap64 (x11_1 + 1))) = some r := by rw [if_pos rfl] at H; exact H
       clear H
       have H := H1
       clear H1
       have H' := Aside0.mk H
       clear H
       have p538 : 0 ≤ (x11_1 : Int) := ofd
       have q538 : x11_1 < (l0.length : Int) := ofd
       obtain ⟨ad538, e538, hx538_0⟩ := Kd.at_int HR0.out x11_1 p538 q538
       cases e538
       replace p538 := eq_true p538
       replace q538 := eq_true q538
       go_wp2_with (first | ((with_reducible refine gate_callee (f := 192) rfl ?_); refine goesA (some 18) Try.func192 #[.int .i64 (rd l0 x11_1), .int .i64 a1, .int .i64 a2] ?_; (with_reducible refine (spec_l1In.calls (rd l0 x11_1) a1 a2 true _ A7.out).mono ?_); rintro e w' ⟨rfl, ⟨nd, rfl⟩⟩; refine ⟨_, rfl, ?_⟩))
       go_roundg k1
       case measure => have := HK1.out; omega
       case rel => exact ⟨(wrap64 (x11_1 + 1)), eqd, H', ⟨by have := HK1.out; omega⟩, by repeat (first | exact Drawn0.refl _ | apply Drawn0.step)⟩
      ·replace c8 := Bool.eq_false_iff.mpr c8
       subst c8
       have H1 : (some false) = some r := by rw [if_neg (show ¬ (false = true) by decide)] at H; exact H
       clear H
       have H := H1
       clear H1
       obtain rfl := Option.some.inj H
       have p538 : 0 ≤ (x11_1 : Int) := ofd
       have q538 : x11_1 < (l0.length : Int) := ofd
       obtain ⟨ad538, e538, hx538_0⟩ := Kd.at_int HR0.out x11_1 p538 q538
       cases e538
       replace p538 := eq_true p538
       replace q538 := eq_true q538
       go_wp2_with (first | ((with_reducible refine gate_callee (f := 192) rfl ?_); refine goesA (some 18) Try.func192 #[.int .i64 (rd l0 x11_1), .int .i64 a1, .int .i64 a2] ?_; (with_reducible refine (spec_l1In.calls (rd l0 x11_1) a1 a2 false _ A7.out).mono ?_); rintro e w' ⟨rfl, ⟨nd, rfl⟩⟩; refine ⟨_, rfl, ?_⟩))
       go_ret
       exact ⟨by first | rfl | (simp; done) | (simp [*]; done), by repeat (first | exact Drawn0.refl _ | apply Drawn0.step)⟩
     ·rw [if_neg c6] at H
      exact absurd H (by simp)
    ·rw [if_neg c5] at H
     exact absurd H (by simp)
   ·rw [if_neg c4] at H
    have c4b0 : decide (x11_1 < (l0.length : Int)) = false := decide_eq_false c4
    clear c4
    obtain rfl := Option.some.inj H
    go_wp2
    go_ret
    exact ⟨by first | rfl | (simp; done) | (simp [*]; done), by repeat (first | exact Drawn0.refl _ | apply Drawn0.step)⟩

noncomputable def spec_l1All.L0 (x1 : Int) (x2 : Int) (x9 : List Int) (x10 : Int) (x11 : Int) : Option (Bool) := lim fun k => spec_l1All.l0 k x1 x2 x9 x10 x11
theorem spec_l1All.L0_lim (x1 : Int) (x2 : Int) (x9 : List Int) (x10 : Int) (x11 : Int) : Lim (fun k => spec_l1All.l0 k x1 x2 x9 x10 x11) (spec_l1All.L0 x1 x2 x9 x10 x11) := Lim.of fun k => (spec_l1All.mono_l k) x1 x2 x9 x10 x11
noncomputable def spec_l1All.F (l0 : List Int) (a1 : Int) (a2 : Int) : Option (Bool) := lim fun k => spec_l1All.f k l0 a1 a2
theorem spec_l1All.F_lim (l0 : List Int) (a1 : Int) (a2 : Int) : Lim (fun k => spec_l1All.f k l0 a1 a2) (spec_l1All.F l0 a1 a2) := Lim.of fun k => spec_l1All.mono l0 a1 a2 k
theorem spec_l1All.L0_eq (x1 : Int) (x2 : Int) (x9 : List Int) (x10 : Int) (x11 : Int) : spec_l1All.L0 x1 x2 x9 x10 x11 = (if x11 < x10 then (if 0 ≤ x11 then (if x11 < (x9.length : Int) then ((spec_l1In.f (rd x9 x11) x1 x2).bind fun t539 => (if t539 = true then (spec_l1All.L0 x1 x2 x9 x10 (wrap64 (x11 + 1))) else (some false))) else (none)) else (none)) else (some true)) :=
 Lim.step (f := fun k => spec_l1All.l0 (k + 1) x1 x2 x9 x10 x11) (spec_l1All.L0_lim x1 x2 x9 x10 x11) (fun _ => rfl) (by
  simp only [spec_l1All.l0]
  repeat' (first | (with_reducible first | exact Lim.const _ | exact spec_l1All.L0_lim _ _ _ _ _ | refine Lim.ite ?_ ?_ | refine Lim.bind ?_ (fun _ => ?_))))
theorem spec_l1All.F_eq (l0 : List Int) (a1 : Int) (a2 : Int) : spec_l1All.F l0 a1 a2 = (spec_l1All.L0 a1 a2 l0 (l0.length : Int) 0) :=
 Lim.unique (spec_l1All.F_lim l0 a1 a2) (by
  unfold spec_l1All.f
  repeat' (first | (with_reducible first | exact Lim.const _ | exact spec_l1All.L0_lim _ _ _ _ _ | refine Lim.ite ?_ ?_ | refine Lim.bind ?_ (fun _ => ?_))))

end Go.Proofs.Ytaohgllnoomaeaa.Fn
namespace Go.Proofs.Ytaohgllnoomaeaa.Fn
open Go.RowKit Go.Proofs.YtaohgllnoomaeaaW.PrintWords Go.Proofs.YtaohgllnoomaeaaW.PrintLast Go.Proofs.YtaohgllnoomaeaaW.PrintMore
attribute [local go_sem] max2_int min2_int max_two min_two max_three min_three max_four min_four   -- for this text's walks alone
set_option linter.unusedVariables false
set_option linter.unusedSimpArgs false

/-! ### spec_roGood: function 180 -/
def spec_roGood.f (k : Nat) (l0 : List Int) : Option (Bool) := if (l0.length : Int) ≤ 40 then ((spec_l1All.f k l0 0 20).bind fun t540 => (some t540)) else (some false)
theorem spec_roGood.mono : ∀ a0 k, LeO (spec_roGood.f k a0) (spec_roGood.f (k + 1) a0) := by
 intro a0 k
 unfold spec_roGood.f
 repeat' (first | (with_reducible first | exact spec_l1All.mono _ _ _ _ | exact LeO.refl _ | exact LeO.none _ | refine LeO.ite ?_ ?_ | refine LeO.bind ?_ (fun _ => ?_)) | exact spec_l1All.mono _ _ _ _ | exact LeO.none _ | refine LeO.ite ?_ ?_ | refine LeO.bind ?_ (fun _ => ?_))
set_option maxHeartbeats 8000000 in
set_option maxRecDepth 100000 in
theorem spec_roGood.calls (k : Nat) (A0 : Option Addr) (c0 : Nat) (l0 : List Int) (r : Bool) (w : World) (hr0 : Kd.C (Kd.int .i64) w A0 l0.length l0) (hc0 : l0.length ≤ c0) (h : spec_roGood.f k l0 = some r) :
  Calls Try.prog 180 #[.slice A0 l0.length c0] w fun e w' => e = .returned (.bool r) ∧ Drawn0 w w' := by
 have HR0 := Aside0.mk hr0
 have HC0 := Aside0.mk hc0
 clear hr0 hc0
 have H := h
 unfold spec_roGood.f at H
 clear h
 by_cases c2 : (l0.length : Int) ≤ 40
 ·rw [if_pos c2] at H
  have c2b0 : decide ((l0.length : Int) ≤ 40) = true := decide_eq_true c2
  have c2b1 : decide (l0.length ≤ 40) = true := decide_eq_true (by omega)
  clear c2
  replace H := Option.bind_eq_some_iff.mp H
  obtain ⟨t540, A30, H⟩ := H
  replace H : (some t540) = some r := H
  have A3 := Aside0.mk A30
  clear A30
  obtain rfl := Option.some.inj H
  go_enter Try.func180, Try.ntmps180
  go_wp2_with (first | (go_at_call 246; (with_reducible refine (spec_l1All.calls k _ _ l0 0 20 t540 _ ?side1 ?side2 A3.out).mono ?_); (case side1 => repeat (first | exact HR0.out | (with_reducible refine Kd.C_alloc ?_ _) | (with_reducible refine Kd.C_drewN ?_ _) | (with_reducible refine Kd.C_drew ?_))); (case side2 => exact HC0.out); rintro e w' ⟨rfl, ⟨nd, rfl⟩⟩))
  go_ret
  exact ⟨by first | rfl | (simp; done) | (simp [*]; done), by repeat (first | exact Drawn0.refl _ | apply Drawn0.step)⟩
 ·rw [if_neg c2] at H
  have c2b0 : decide ((l0.length : Int) ≤ 40) = false := decide_eq_false c2
  have c2b1 : decide (l0.length ≤ 40) = false := decide_eq_false (by omega)
  clear c2
  obtain rfl := Option.some.inj H
  go_enter Try.func180, Try.ntmps180
  go_wp2
  go_ret
  exact ⟨by first | rfl | (simp; done) | (simp [*]; done), by repeat (first | exact Drawn0.refl _ | apply Drawn0.step)⟩

noncomputable def spec_roGood.F (l0 : List Int) : Option (Bool) := lim fun k => spec_roGood.f k l0
theorem spec_roGood.F_lim (l0 : List Int) : Lim (fun k => spec_roGood.f k l0) (spec_roGood.F l0) := Lim.of fun k => spec_roGood.mono l0 k
theorem spec_roGood.F_eq (l0 : List Int) : spec_roGood.F l0 = (if (l0.length : Int) ≤ 40 then ((spec_l1All.F l0 0 20).bind fun t540 => (some t540)) else (some false)) :=
 Lim.unique (spec_roGood.F_lim l0) (by
  unfold spec_roGood.f
  repeat' (first | (with_reducible first | exact Lim.const _ | exact spec_l1All.F_lim _ _ _ | refine Lim.ite ?_ ?_ | refine Lim.bind ?_ (fun _ => ?_))))

end Go.Proofs.Ytaohgllnoomaeaa.Fn
namespace Go.Proofs.Ytaohgllnoomaeaa.Fn
open Go.RowKit Go.Proofs.YtaohgllnoomaeaaW.PrintWords Go.Proofs.YtaohgllnoomaeaaW.PrintLast Go.Proofs.YtaohgllnoomaeaaW.PrintMore
attribute [local go_sem] max2_int min2_int max_two min_two max_three min_three max_four min_four   -- for this text's walks alone
set_option linter.unusedVariables false
set_option linter.unusedSimpArgs false

/-! ### spec_roPairs: function 181 -/
def spec_roPairs.l0 : Nat → List Int → Int → Option (Bool)
 | 0, _, _ => none
 | k + 1, x0, x3 => if x3 ≤ 20 then ((spec_roPlaces.f k x0 x3).bind fun t545 => (if (t545.length : Int) = 0 then (spec_roPairs.l0 k x0 (wrap64 (x3 + 1))) else (if (t545.length : Int) = 2 then (spec_roPairs.l0 k x0 (wrap64 (x3 + 1))) else (some false)))) else (some true)
def spec_roPairs.f (k : Nat) (l0 : List Int) : Option (Bool) := spec_roPairs.l0 k l0 1
theorem spec_roPairs.mono_l : ∀ k, (∀ y0 y1, LeO (spec_roPairs.l0 k y0 y1) (spec_roPairs.l0 (k + 1) y0 y1))
 | 0 => fun _ _ r h => by simp [spec_roPairs.l0] at h
 | k + 1 => by
  have ih0 := spec_roPairs.mono_l k
  ·intro y0 y1
   unfold spec_roPairs.l0
   repeat' (first | (with_reducible first | exact ih0 _ _ | exact spec_roPlaces.mono _ _ _ | exact LeO.refl _ | exact LeO.none _ | refine LeO.ite ?_ ?_ | refine LeO.bind ?_ (fun _ => ?_)) | exact ih0 _ _ | exact spec_roPlaces.mono _ _ _ | exact LeO.none _ | refine LeO.ite ?_ ?_ | refine LeO.bind ?_ (fun _ => ?_))
theorem spec_roPairs.mono : ∀ a0 k, LeO (spec_roPairs.f k a0) (spec_roPairs.f (k + 1) a0) := by
 intro a0 k
 have ih0 := spec_roPairs.mono_l k
 unfold spec_roPairs.f
 repeat' (first | (with_reducible first | exact ih0 _ _ | exact LeO.refl _ | exact LeO.none _ | refine LeO.ite ?_ ?_ | refine LeO.bind ?_ (fun _ => ?_)) | exact ih0 _ _ | exact LeO.none _ | refine LeO.ite ?_ ?_ | refine LeO.bind ?_ (fun _ => ?_))
set_option maxHeartbeats 8000000 in
set_option maxRecDepth 100000 in
theorem spec_roPairs.calls (k : Nat) (A0 : Option Addr) (c0 : Nat) (l0 : List Int) (r : Bool) (w : World) (hr0 : Kd.C (Kd.int .i64) w A0 l0.length l0) (hc0 : l0.length ≤ c0) (h : spec_roPairs.f k l0 = some r) :
  Calls Try.prog 181 #[.slice A0 l0.length c0] w fun e w' => e = .returned (.bool r) ∧ Below w.heap.size w w' := by
 have HR0 := Aside0.mk hr0
 have HC0 := Aside0.mk hc0
 clear hr0 hc0
 have HB := Aside0.mk (Below.refl w.heap.size w)
 have H := h
 unfold spec_roPairs.f at H
 clear h
 have H' := Aside0.mk H
 clear H
 go_enter Try.func181, Try.ntmps181
 go_wp2
 go_loopg [3] k (fun kq v3 w' => ∃ (x3_1 : Int), v3 = .int .i64 x3_1 ∧ Aside0 (spec_roPairs.l0 kq l0 x3_1 = some r) ∧ Aside0 (kq ≤ k) ∧ Aside0 (Below w.heap.size w w'))
 case atStart => exact ⟨(1), eqd, H', ⟨Nat.le_refl _⟩, ⟨atB HB⟩⟩
 case round =>
  clear H'
  try clear c1
  obtain ⟨x3_1, rfl, HA, HK1, HB⟩ := hrel
  cases gk with
  | zero => exact absurd HA.out (by simp [spec_roPairs.l0])
  | succ k1 =>
   have H := HA.out
   clear HA
   simp only [spec_roPairs.l0] at H
   by_cases c2 : x3_1 ≤ 20
   ·rw [if_pos c2] at H
    have c2b0 : decide (x3_1 ≤ 20) = true := decide_eq_true c2
    clear c2
    replace H := Option.bind_eq_some_iff.mp H
    obtain ⟨t545, A30, H⟩ := H
    replace H : (if (t545.length : Int) = 0 then (spec_roPairs.l0 k1 l0 (wrap64 (x3_1 + 1))) else (if (t545.length : Int) = 2 then (spec_roPairs.l0 k1 l0 (wrap64 (x3_1 + 1))) else (some false))) = some r := H
    have A3 := Aside0.mk A30
    clear A30
    by_cases c4 : (t545.length : Int) = 0
    ·rw [if_pos c4] at H
     have c4b0 : ((t545.length : Int) == 0) = true := beq_iff_eq.mpr c4
     have c4b1 : ((t545.length : Int) != 0) = false := bne_eq_false_iff_eq.mpr c4
     clear c4
     have H' := Aside0.mk H
     clear H
     go_wp2_with (first | ((with_reducible refine gate_callee (f := 179) rfl ?_); refine goesA (some 11) Try.func179 #[.slice A0 l0.length c0, .int .i64 x3_1] ?_; (with_reducible refine (spec_roPlaces.calls k1 _ _ l0 x3_1 t545 _ ?side1 ?side2 A3.out).mono ?_); (case side1 => repeat (first | exact (Kd.C_below HR0.out HB.out) | (with_reducible refine Kd.C_alloc ?_ _) | (with_reducible refine Kd.C_drewN ?_ _) | (with_reducible refine Kd.C_drew ?_))); (case side2 => exact HC0.out); rintro e w5 ⟨v546, rfl, ho0, hb⟩; refine ⟨_, rfl, ?_⟩; have HO547 := lowR ho0 HB; replace HB := upB HB hb; (try clear hb); (try clear hb2); (try clear hk); (try clear hi); (try clear ho0); obtain ⟨Ao6, co6, eo6⟩ := Kd.R_slice HO547.out; subst eo6))
     go_roundg k1
     case measure => have := HK1.out; omega
     case rel => exact ⟨(wrap64 (x3_1 + 1)), eqd, H', ⟨by have := HK1.out; omega⟩, ⟨atB HB⟩⟩
    ·rw [if_neg c4] at H
     have c4b0 : ((t545.length : Int) == 0) = false := beq_eq_false_iff_ne.mpr c4
     have c4b1 : ((t545.length : Int) != 0) = true := bne_iff_ne.mpr c4
     have c4b2 : ¬ (t545 = []) := fun h_ => c4 (by rw [h_]; rfl)
     by_cases c7 : (t545.length : Int) = 2
     ·rw [if_pos c7] at H
      have c7b0 : ((t545.length : Int) == 2) = true := beq_iff_eq.mpr c7
      have c7b1 : ((t545.length : Int) != 2) = false := bne_eq_false_iff_eq.mpr c7
      clear c7
      have H' := Aside0.mk H
      clear H
      go_wp2_with (first | ((with_reducible refine gate_callee (f := 179) rfl ?_); refine goesA (some 11) Try.func179 #[.slice A0 l0.length c0, .int .i64 x3_1] ?_; (with_reducible refine (spec_roPlaces.calls k1 _ _ l0 x3_1 t545 _ ?side1 ?side2 A3.out).mono ?_); (case side1 => repeat (first | exact (Kd.C_below HR0.out HB.out) | (with_reducible refine Kd.C_alloc ?_ _) | (with_reducible refine Kd.C_drewN ?_ _) | (with_reducible refine Kd.C_drew ?_))); (case side2 => exact HC0.out); rintro e w8 ⟨v546, rfl, ho0, hb⟩; refine ⟨_, rfl, ?_⟩; have HO547 := lowR ho0 HB; replace HB := upB HB hb; (try clear hb); (try clear hb2); (try clear hk); (try clear hi); (try clear ho0); obtain ⟨Ao9, co9, eo9⟩ := Kd.R_slice HO547.out; subst eo9))
      go_roundg k1
      case measure => have := HK1.out; omega
      case rel => exact ⟨(wrap64 (x3_1 + 1)), eqd, H', ⟨by have := HK1.out; omega⟩, ⟨atB HB⟩⟩
     ·rw [if_neg c7] at H
      have c7b0 : ((t545.length : Int) == 2) = false := beq_eq_false_iff_ne.mpr c7
      have c7b1 : ((t545.length : Int) != 2) = true := bne_iff_ne.mpr c7
      obtain rfl := Option.some.inj H
      go_wp2_with (first | ((with_reducible refine gate_callee (f := 179) rfl ?_); refine goesA (some 11) Try.func179 #[.slice A0 l0.length c0, .int .i64 x3_1] ?_; (with_reducible refine (spec_roPlaces.calls k1 _ _ l0 x3_1 t545 _ ?side1 ?side2 A3.out).mono ?_); (case side1 => repeat (first | exact (Kd.C_below HR0.out HB.out) | (with_reducible refine Kd.C_alloc ?_ _) | (with_reducible refine Kd.C_drewN ?_ _) | (with_reducible refine Kd.C_drew ?_))); (case side2 => exact HC0.out); rintro e w10 ⟨v546, rfl, ho0, hb⟩; refine ⟨_, rfl, ?_⟩; have HO547 := lowR ho0 HB; replace HB := upB HB hb; (try clear hb); (try clear hb2); (try clear hk); (try clear hi); (try clear ho0); obtain ⟨Ao11, co11, eo11⟩ := Kd.R_slice HO547.out; subst eo11))
      go_ret
      exact ⟨eqr, atB HB⟩
   ·rw [if_neg c2] at H
    have c2b0 : decide (x3_1 ≤ 20) = false := decide_eq_false c2
    clear c2
    obtain rfl := Option.some.inj H
    go_wp2
    go_ret
    exact ⟨eqr, atB HB⟩

noncomputable def spec_roPairs.L0 (x0 : List Int) (x3 : Int) : Option (Bool) := lim fun k => spec_roPairs.l0 k x0 x3
theorem spec_roPairs.L0_lim (x0 : List Int) (x3 : Int) : Lim (fun k => spec_roPairs.l0 k x0 x3) (spec_roPairs.L0 x0 x3) := Lim.of fun k => (spec_roPairs.mono_l k) x0 x3
noncomputable def spec_roPairs.F (l0 : List Int) : Option (Bool) := lim fun k => spec_roPairs.f k l0
theorem spec_roPairs.F_lim (l0 : List Int) : Lim (fun k => spec_roPairs.f k l0) (spec_roPairs.F l0) := Lim.of fun k => spec_roPairs.mono l0 k
theorem spec_roPairs.L0_eq (x0 : List Int) (x3 : Int) : spec_roPairs.L0 x0 x3 = (if x3 ≤ 20 then ((spec_roPlaces.F x0 x3).bind fun t545 => (if (t545.length : Int) = 0 then (spec_roPairs.L0 x0 (wrap64 (x3 + 1))) else (if (t545.length : Int) = 2 then (spec_roPairs.L0 x0 (wrap64 (x3 + 1))) else (some false)))) else (some true)) :=
 Lim.step (f := fun k => spec_roPairs.l0 (k + 1) x0 x3) (spec_roPairs.L0_lim x0 x3) (fun _ => rfl) (by
  simp only [spec_roPairs.l0]
  repeat' (first | (with_reducible first | exact Lim.const _ | exact spec_roPairs.L0_lim _ _ | exact spec_roPlaces.F_lim _ _ | refine Lim.ite ?_ ?_ | refine Lim.bind ?_ (fun _ => ?_))))
theorem spec_roPairs.F_eq (l0 : List Int) : spec_roPairs.F l0 = (spec_roPairs.L0 l0 1) :=
 Lim.unique (spec_roPairs.F_lim l0) (by
  unfold spec_roPairs.f
  repeat' (first | (with_reducible first | exact Lim.const _ | exact spec_roPairs.L0_lim _ _ | refine Lim.ite ?_ ?_ | refine Lim.bind ?_ (fun _ => ?_))))

end Go.Proofs.Ytaohgllnoomaeaa.Fn
namespace Go.Proofs.Ytaohgllnoomaeaa.Fn
open Go.RowKit Go.Proofs.YtaohgllnoomaeaaW.PrintWords Go.Proofs.YtaohgllnoomaeaaW.PrintLast Go.Proofs.YtaohgllnoomaeaaW.PrintMore
attribute [local go_sem] max2_int min2_int max_two min_two max_three min_three max_four min_four   -- for this text's walks alone
set_option linter.unusedVariables false
set_option linter.unusedSimpArgs false

/-! ### spec_roIs: function 177 -/
def spec_roIs.f (k : Nat) (l0 : List Int) : Option (Bool) := (spec_roGood.f k l0).bind fun t548 => (if t548 = true then ((spec_roPairs.f k l0).bind fun t549 => (some t549)) else (some false))
theorem spec_roIs.mono : ∀ a0 k, LeO (spec_roIs.f k a0) (spec_roIs.f (k + 1) a0) := by
 intro a0 k
 unfold spec_roIs.f
 repeat' (first | (with_reducible first | exact spec_roGood.mono _ _ | exact spec_roPairs.mono _ _ | exact LeO.refl _ | exact LeO.none _ | refine LeO.ite ?_ ?_ | refine LeO.bind ?_ (fun _ => ?_)) | exact spec_roGood.mono _ _ | exact spec_roPairs.mono _ _ | exact LeO.none _ | refine LeO.ite ?_ ?_ | refine LeO.bind ?_ (fun _ => ?_))
set_option maxHeartbeats 8000000 in
set_option maxRecDepth 100000 in
theorem spec_roIs.calls (k : Nat) (A0 : Option Addr) (c0 : Nat) (l0 : List Int) (r : Bool) (w : World) (hr0 : Kd.C (Kd.int .i64) w A0 l0.length l0) (hc0 : l0.length ≤ c0) (h : spec_roIs.f k l0 = some r) :
  Calls Try.prog 177 #[.slice A0 l0.length c0] w fun e w' => e = .returned (.bool r) ∧ Below w.heap.size w w' := by
 have HR0 := Aside0.mk hr0
 have HC0 := Aside0.mk hc0
 clear hr0 hc0
 have HB := Aside0.mk (Below.refl w.heap.size w)
 have H := h
 unfold spec_roIs.f at H
 clear h
 replace H := Option.bind_eq_some_iff.mp H
 obtain ⟨t548, A20, H⟩ := H
 replace H : (if t548 = true then ((spec_roPairs.f k l0).bind fun t549 => (some t549)) else (some false)) = some r := H
 have A2 := Aside0.mk A20
 clear A20
 by_cases c3 : t548 = true
 ·subst c3
  have H1 : ((spec_roPairs.f k l0).bind fun t549 => (some t549)) = some r := by rw [if_pos rfl] at H; exact H
  clear H
  have H := H1
  clear H1
  replace H := Option.bind_eq_some_iff.mp H
  obtain ⟨t549, A40, H⟩ := H
  replace H : (some t549) = some r := H
  have A4 := Aside0.mk A40
  clear A40
  obtain rfl := Option.some.inj H
  go_enter Try.func177, Try.ntmps177
  go_wp2_with (first | ((with_reducible refine gate_callee (f := 180) rfl ?_); refine goesA (some 4) Try.func180 #[.slice A0 l0.length c0] ?_; (with_reducible refine (spec_roGood.calls k _ _ l0 true _ ?side1 ?side2 A2.out).mono ?_); (case side1 => repeat (first | exact HR0.out | (with_reducible refine Kd.C_alloc ?_ _) | (with_reducible refine Kd.C_drewN ?_ _) | (with_reducible refine Kd.C_drew ?_))); (case side2 => exact HC0.out); rintro e w' ⟨rfl, ⟨nd, rfl⟩⟩; refine ⟨_, rfl, ?_⟩) | (go_at_call 181; (with_reducible refine (spec_roPairs.calls k _ _ l0 t549 _ ?side1 ?side2 A4.out).mono ?_); (case side1 => repeat (first | exact HR0.out | (with_reducible refine Kd.C_alloc ?_ _) | (with_reducible refine Kd.C_drewN ?_ _) | (with_reducible refine Kd.C_drew ?_))); (case side2 => exact HC0.out); rintro e w5 ⟨rfl, hb⟩; replace HB := upB HB hb; (try clear hb); (try clear hb2); (try clear hk); (try clear hi)))
  go_ret
  exact ⟨eqr, atB HB⟩
 ·replace c3 := Bool.eq_false_iff.mpr c3
  subst c3
  have H1 : (some false) = some r := by rw [if_neg (show ¬ (false = true) by decide)] at H; exact H
  clear H
  have H := H1
  clear H1
  obtain rfl := Option.some.inj H
  go_enter Try.func177, Try.ntmps177
  go_wp2_with (first | ((with_reducible refine gate_callee (f := 180) rfl ?_); refine goesA (some 4) Try.func180 #[.slice A0 l0.length c0] ?_; (with_reducible refine (spec_roGood.calls k _ _ l0 false _ ?side1 ?side2 A2.out).mono ?_); (case side1 => repeat (first | exact HR0.out | (with_reducible refine Kd.C_alloc ?_ _) | (with_reducible refine Kd.C_drewN ?_ _) | (with_reducible refine Kd.C_drew ?_))); (case side2 => exact HC0.out); rintro e w' ⟨rfl, ⟨nd, rfl⟩⟩; refine ⟨_, rfl, ?_⟩))
  go_ret
  exact ⟨eqr, atB HB⟩

noncomputable def spec_roIs.F (l0 : List Int) : Option (Bool) := lim fun k => spec_roIs.f k l0
theorem spec_roIs.F_lim (l0 : List Int) : Lim (fun k => spec_roIs.f k l0) (spec_roIs.F l0) := Lim.of fun k => spec_roIs.mono l0 k
theorem spec_roIs.F_eq (l0 : List Int) : spec_roIs.F l0 = ((spec_roGood.F l0).bind fun t548 => (if t548 = true then ((spec_roPairs.F l0).bind fun t549 => (some t549)) else (some false))) :=
 Lim.unique (spec_roIs.F_lim l0) (by
  unfold spec_roIs.f
  repeat' (first | (with_reducible first | exact Lim.const _ | exact spec_roGood.F_lim _ | exact spec_roPairs.F_lim _ | refine Lim.ite ?_ ?_ | refine Lim.bind ?_ (fun _ => ?_))))

end Go.Proofs.Ytaohgllnoomaeaa.Fn
namespace Go.Proofs.Ytaohgllnoomaeaa.Fn
open Go.RowKit Go.Proofs.YtaohgllnoomaeaaW.PrintWords Go.Proofs.YtaohgllnoomaeaaW.PrintLast Go.Proofs.YtaohgllnoomaeaaW.PrintMore
attribute [local go_sem] max2_int min2_int max_two min_two max_three min_three max_four min_four   -- for this text's walks alone
set_option linter.unusedVariables false
set_option linter.unusedSimpArgs false

/-! ### spec_hoExtended: function 225 -/
mutual
def spec_hoExtended.j0 : Nat → List Int → Bool → Option (Bool)
 | 0, _, _ => none
 | k + 1, x0, x19 => if x19 = true then (some false) else (spec_hoExtended.l0 k x0 0 x0 (x0.length : Int) 0)
def spec_hoExtended.l0 : Nat → List Int → Int → List Int → Int → Int → Option (Bool)
 | 0, _, _, _, _, _ => none
 | k + 1, x0, x3, x20, x21, x22 => if x22 < x21 then (if 0 ≤ x22 then (if x22 < (x20.length : Int) then (if (rd x20 x22) = 0 then (if (rd x20 x22) > (wrap64 ((x0.length : Int) / 2)) then (some false) else (spec_hoExtended.l0 k x0 (wrap64 (x3 + 1)) x20 x21 (wrap64 (x22 + 1)))) else (if (rd x20 x22) > (wrap64 ((x0.length : Int) / 2)) then (some false) else (spec_hoExtended.l0 k x0 x3 x20 x21 (wrap64 (x22 + 1))))) else (none)) else (none)) else (some (x3 == 1))
end
def spec_hoExtended.f (k : Nat) (l0 : List Int) : Option (Bool) := if (l0.length : Int) < 3 then (spec_hoExtended.j0 k l0 true) else (if ((l0.length : Int) % 2) = 0 then (spec_hoExtended.j0 k l0 true) else ((spec_roFits.f k l0 0).bind fun t1211 => (spec_hoExtended.j0 k l0 (!t1211))))
theorem spec_hoExtended.mono_l : ∀ k, (∀ y0 y1, LeO (spec_hoExtended.j0 k y0 y1) (spec_hoExtended.j0 (k + 1) y0 y1)) ∧ (∀ y0 y1 y2 y3 y4, LeO (spec_hoExtended.l0 k y0 y1 y2 y3 y4) (spec_hoExtended.l0 (k + 1) y0 y1 y2 y3 y4))
 | 0 => ⟨fun _ _ r h => by simp [spec_hoExtended.j0] at h, fun _ _ _ _ _ r h => by simp [spec_hoExtended.l0] at h⟩
 | k + 1 => by
  obtain ⟨ih0, ih1⟩ := spec_hoExtended.mono_l k
  refine ⟨?_, ?_⟩
  ·intro y0 y1
   unfold spec_hoExtended.j0
   repeat' (first | (with_reducible first | exact ih1 _ _ _ _ _ | exact LeO.refl _ | exact LeO.none _ | refine LeO.ite ?_ ?_ | refine LeO.bind ?_ (fun _ => ?_)) | exact ih1 _ _ _ _ _ | exact LeO.none _ | refine LeO.ite ?_ ?_ | refine LeO.bind ?_ (fun _ => ?_))
  ·intro y0 y1 y2 y3 y4
   unfold spec_hoExtended.l0
   repeat' (first | (with_reducible first | exact ih1 _ _ _ _ _ | exact LeO.refl _ | exact LeO.none _ | refine LeO.ite ?_ ?_ | refine LeO.bind ?_ (fun _ => ?_)) | exact ih1 _ _ _ _ _ | exact LeO.none _ | refine LeO.ite ?_ ?_ | refine LeO.bind ?_ (fun _ => ?_))
theorem spec_hoExtended.mono : ∀ a0 k, LeO (spec_hoExtended.f k a0) (spec_hoExtended.f (k + 1) a0) := by
 intro a0 k
 obtain ⟨ih0, ih1⟩ := spec_hoExtended.mono_l k
 unfold spec_hoExtended.f
 repeat' (first | (with_reducible first | exact ih0 _ _ | exact spec_roFits.mono _ _ _ | exact LeO.refl _ | exact LeO.none _ | refine LeO.ite ?_ ?_ | refine LeO.bind ?_ (fun _ => ?_)) | exact ih0 _ _ | exact spec_roFits.mono _ _ _ | exact LeO.none _ | refine LeO.ite ?_ ?_ | refine LeO.bind ?_ (fun _ => ?_))
set_option maxHeartbeats 8000000 in
set_option maxRecDepth 100000 in
theorem spec_hoExtended.calls (k : Nat) (A0 : Option Addr) (c0 : Nat) (l0 : List Int) (r : Bool) (w : World) (hr0 : Kd.C (Kd.int .i64) w A0 l0.length l0) (hc0 : l0.length ≤ c0) (h : spec_hoExtended.f k l0 = some r) :
  Calls Try.prog 225 #[.slice A0 l0.length c0] w fun e w' => e = .returned (.bool r) ∧ Below w.heap.size w w' := by
 have HR0 := Aside0.mk hr0
 have HC0 := Aside0.mk hc0
 clear hr0 hc0
 have HB := Aside0.mk (Below.refl w.heap.size w)
 have H := h
 unfold spec_hoExtended.f at H
 clear h
 have HC2 := Aside0.mk H
 clear H
 go_enter Try.func225, Try.ntmps225
 go_upto_region 1 with (fail)
 go_cut [19] (fun v19 wc => ∃ (kq : Nat) (x19_1 : Bool), v19 = .bool x19_1 ∧ Aside0 (spec_hoExtended.j0 kq l0 x19_1 = some r) ∧ Aside0 (kq ≤ k) ∧ Aside0 (Below w.heap.size w wc))
 case first =>
  have H := HC2.out
  clear HC2
  by_cases c3 : (l0.length : Int) < 3
  ·rw [if_pos c3] at H
   have c3b0 : decide ((l0.length : Int) < 3) = true := decide_eq_true c3
   have c3b1 : decide (l0.length < 3) = true := decide_eq_true (by omega)
   clear c3
   (first | rw [c3b0] | (simp only [i64_w, i32_w]; rw [c3b0]) | skip)
   have H' := Aside0.mk H
   clear H
   go_wp2
   go_meet
   case rel => exact ⟨_, (true), eqd, H', ⟨leD⟩, ⟨atB HB⟩⟩
  ·rw [if_neg c3] at H
   have c3b0 : decide ((l0.length : Int) < 3) = false := decide_eq_false c3
   have c3b1 : decide (l0.length < 3) = false := decide_eq_false (by omega)
   clear c3
   (first | rw [c3b0] | (simp only [i64_w, i32_w]; rw [c3b0]) | skip)
   by_cases c4 : ((l0.length : Int) % 2) = 0
   ·rw [if_pos c4] at H
    have c4b0 : (((l0.length : Int) % 2) == 0) = true := beq_iff_eq.mpr c4
    have c4b1 : (((l0.length : Int) % 2) != 0) = false := bne_eq_false_iff_eq.mpr c4
    clear c4
    have H' := Aside0.mk H
    clear H
    go_wp2
    go_meet
    case rel => exact ⟨_, (true), eqd, H', ⟨leD⟩, ⟨atB HB⟩⟩
   ·rw [if_neg c4] at H
    have c4b0 : (((l0.length : Int) % 2) == 0) = false := beq_eq_false_iff_ne.mpr c4
    have c4b1 : (((l0.length : Int) % 2) != 0) = true := bne_iff_ne.mpr c4
    replace H := Option.bind_eq_some_iff.mp H
    obtain ⟨t1211, A50, H⟩ := H
    replace H : (spec_hoExtended.j0 k l0 (!t1211)) = some r := H
    have A5 := Aside0.mk A50
    clear A50
    have H' := Aside0.mk H
    clear H
    go_wp2_with (first | (go_at_call 193; (with_reducible refine (spec_roFits.calls k _ _ l0 0 t1211 _ ?side1 ?side2 A5.out).mono ?_); (case side1 => repeat (first | exact (Kd.C_below HR0.out HB.out) | (with_reducible refine Kd.C_alloc ?_ _) | (with_reducible refine Kd.C_drewN ?_ _) | (with_reducible refine Kd.C_drew ?_))); (case side2 => exact HC0.out); rintro e w6 ⟨rfl, hb⟩; replace HB := upB HB hb; (try clear hb); (try clear hb2); (try clear hk); (try clear hi)))
    go_meet
    case rel => exact ⟨_, (!t1211), eqd, H', ⟨leD⟩, ⟨atB HB⟩⟩
 case rest =>
  clear HC2
  try clear c2
  try clear p2
  try clear c3
  try clear c3b0
  try clear c3b1
  try clear c4
  try clear c4b0
  try clear c4b1
  obtain ⟨kq, x19_1, rfl, HA, HJ1, HB⟩ := hcut
  cases kq with
  | zero => exact absurd HA.out (by simp [spec_hoExtended.j0])
  | succ kj1 =>
   have H := HA.out
   clear HA
   simp only [spec_hoExtended.j0] at H
   by_cases c7 : x19_1 = true
   ·subst c7
    have H1 : (some false) = some r := by rw [if_pos rfl] at H; exact H
    clear H
    have H := H1
    clear H1
    obtain rfl := Option.some.inj H
    go_wp2
    go_ret
    exact ⟨eqr, atB HB⟩
   ·replace c7 := Bool.eq_false_iff.mpr c7
    subst c7
    have H1 : (spec_hoExtended.l0 kj1 l0 0 l0 (l0.length : Int) 0) = some r := by rw [if_neg (show ¬ (false = true) by decide)] at H; exact H
    clear H
    have H := H1
    clear H1
    have H' := Aside0.mk H
    clear H
    go_wp2
    go_loopg [3, 22] kj1 (fun kq v3 v22 w' => ∃ (x3_2 : Int) (x22_2 : Int), v3 = .int .i64 x3_2 ∧ v22 = .int .i64 x22_2 ∧ Aside0 (spec_hoExtended.l0 kq l0 x3_2 l0 (l0.length : Int) x22_2 = some r) ∧ Aside0 (kq ≤ kj1) ∧ Aside0 (Below w.heap.size w w'))
    case atStart => exact ⟨(0), (0), eqd, eqd, H', ⟨Nat.le_refl _⟩, ⟨atB HB⟩⟩
    case round =>
     clear H'
     try clear c2
     try clear p2
     try clear c3
     try clear c3b0
     try clear c3b1
     try clear c4
     try clear c4b0
     try clear c4b1
     try clear c7
     try clear p2
     obtain ⟨x3_2, x22_2, rfl, rfl, HA, HK2, HB⟩ := hrel
     cases gk with
     | zero => exact absurd HA.out (by simp [spec_hoExtended.l0])
     | succ k2 =>
      have H := HA.out
      clear HA
      simp only [spec_hoExtended.l0] at H
      by_cases c8 : x22_2 < (l0.length : Int)
      ·rw [if_pos c8] at H
       have c8b0 : decide (x22_2 < (l0.length : Int)) = true := decide_eq_true c8
       clear c8
       by_cases c9 : 0 ≤ x22_2
       ·rw [if_pos c9] at H
        have c9b0 : decide (0 ≤ x22_2) = true := decide_eq_true c9
        clear c9
        by_cases c10 : x22_2 < (l0.length : Int)
        ·rw [if_pos c10] at H
         have c10b0 : decide (x22_2 < (l0.length : Int)) = true := decide_eq_true c10
         clear c10
         by_cases c11 : (rd l0 x22_2) = 0
         ·rw [if_pos c11] at H
          have c11b0 : ((rd l0 x22_2) == 0) = true := beq_iff_eq.mpr c11
          have c11b1 : ((rd l0 x22_2) != 0) = false := bne_eq_false_iff_eq.mpr c11
          clear c11
          by_cases c12 : (rd l0 x22_2) > (wrap64 ((l0.length : Int) / 2))
          ·rw [if_pos c12] at H
           have c12b0 : decide ((wrap64 ((l0.length : Int) / 2)) < (rd l0 x22_2)) = true := decide_eq_true c12
           clear c12
           obtain rfl := Option.some.inj H
           have p1212 : 0 ≤ (x22_2 : Int) := ofd
           have q1212 : x22_2 < (l0.length : Int) := ofd
           obtain ⟨ad1212, e1212, hx1212_0⟩ := Kd.at_int HR0.out x22_2 p1212 q1212
           cases e1212
           replace hx1212_0 := (HB.out.cell (World.block_lt_of_cell? w _ hx1212_0)).trans hx1212_0
           replace p1212 := eq_true p1212
           replace q1212 := eq_true q1212
           go_wp2
           go_ret
           exact ⟨eqr, atB HB⟩
          ·rw [if_neg c12] at H
           have c12b0 : decide ((wrap64 ((l0.length : Int) / 2)) < (rd l0 x22_2)) = false := decide_eq_false c12
           clear c12
           have H' := Aside0.mk H
           clear H
           have p1212 : 0 ≤ (x22_2 : Int) := ofd
           have q1212 : x22_2 < (l0.length : Int) := ofd
           obtain ⟨ad1212, e1212, hx1212_0⟩ := Kd.at_int HR0.out x22_2 p1212 q1212
           cases e1212
           replace hx1212_0 := (HB.out.cell (World.block_lt_of_cell? w _ hx1212_0)).trans hx1212_0
           replace p1212 := eq_true p1212
           replace q1212 := eq_true q1212
           go_wp2
           go_roundg k2
           case measure => have := HJ1.out; have := HK2.out; omega
           case rel => exact ⟨(wrap64 (x3_2 + 1)), (wrap64 (x22_2 + 1)), eqd, eqd, H', ⟨by have := HJ1.out; have := HK2.out; omega⟩, ⟨atB HB⟩⟩
         ·rw [if_neg c11] at H
          have c11b0 : ((rd l0 x22_2) == 0) = false := beq_eq_false_iff_ne.mpr c11
          have c11b1 : ((rd l0 x22_2) != 0) = true := bne_iff_ne.mpr c11
          by_cases c13 : (rd l0 x22_2) > (wrap64 ((l0.length : Int) / 2))
          ·rw [if_pos c13] at H
           have c13b0 : decide ((wrap64 ((l0.length : Int) / 2)) < (rd l0 x22_2)) = true := decide_eq_true c13
           clear c13
           obtain rfl := Option.some.inj H
           have p1212 : 0 ≤ (x22_2 : Int) := ofd
           have q1212 : x22_2 < (l0.length : Int) := ofd
           obtain ⟨ad1212, e1212, hx1212_0⟩ := Kd.at_int HR0.out x22_2 p1212 q1212
           cases e1212
           replace hx1212_0 := (HB.out.cell (World.block_lt_of_cell? w _ hx1212_0)).trans hx1212_0
           replace p1212 := eq_true p1212
           replace q1212 := eq_true q1212
           go_wp2
           go_ret
           exact ⟨eqr, atB HB⟩
          ·rw [if_neg c13] at H
           have c13b0 : decide ((wrap64 ((l0.length : Int) / 2)) < (rd l0 x22_2)) = false := decide_eq_false c13
           clear c13
           have H' := Aside0.mk H
           clear H
           have p1212 : 0 ≤ (x22_2 : Int) := ofd
           have q1212 : x22_2 < (l0.length : Int) := ofd
           obtain ⟨ad1212, e1212, hx1212_0⟩ := Kd.at_int HR0.out x22_2 p1212 q1212
           cases e1212
           replace hx1212_0 := (HB.out.cell (World.block_lt_of_cell? w _ hx1212_0)).trans hx1212_0
           replace p1212 := eq_true p1212
           replace q1212 := eq_true q1212
           go_wp2
           go_roundg k2
           case measure => have := HJ1.out; have := HK2.out; omega
           case rel => exact ⟨(x3_2), (wrap64 (x22_2 + 1)), eqd, eqd, H', ⟨by have := HJ1.out; have := HK2.out; omega⟩, ⟨atB HB⟩⟩
        ·rw [if_neg c10] at H
         exact absurd H (by simp)
       ·rw [if_neg c9] at H
        exact absurd H (by simp)
      ·rw [if_neg c8] at H
       have c8b0 : decide (x22_2 < (l0.length : Int)) = false := decide_eq_false c8
       clear c8
       obtain rfl := Option.some.inj H
       go_wp2
       go_ret
       exact ⟨eqr, atB HB⟩

noncomputable def spec_hoExtended.J0 (x0 : List Int) (x19 : Bool) : Option (Bool) := lim fun k => spec_hoExtended.j0 k x0 x19
theorem spec_hoExtended.J0_lim (x0 : List Int) (x19 : Bool) : Lim (fun k => spec_hoExtended.j0 k x0 x19) (spec_hoExtended.J0 x0 x19) := Lim.of fun k => (spec_hoExtended.mono_l k).1 x0 x19
noncomputable def spec_hoExtended.L0 (x0 : List Int) (x3 : Int) (x20 : List Int) (x21 : Int) (x22 : Int) : Option (Bool) := lim fun k => spec_hoExtended.l0 k x0 x3 x20 x21 x22
theorem spec_hoExtended.L0_lim (x0 : List Int) (x3 : Int) (x20 : List Int) (x21 : Int) (x22 : Int) : Lim (fun k => spec_hoExtended.l0 k x0 x3 x20 x21 x22) (spec_hoExtended.L0 x0 x3 x20 x21 x22) := Lim.of fun k => (spec_hoExtended.mono_l k).2 x0 x3 x20 x21 x22
noncomputable def spec_hoExtended.F (l0 : List Int) : Option (Bool) := lim fun k => spec_hoExtended.f k l0
theorem spec_hoExtended.F_lim (l0 : List Int) : Lim (fun k => spec_hoExtended.f k l0) (spec_hoExtended.F l0) := Lim.of fun k => spec_hoExtended.mono l0 k
theorem spec_hoExtended.J0_eq (x0 : List Int) (x19 : Bool) : spec_hoExtended.J0 x0 x19 = (if x19 = true then (some false) else (spec_hoExtended.L0 x0 0 x0 (x0.length : Int) 0)) :=
 Lim.step (f := fun k => spec_hoExtended.j0 (k + 1) x0 x19) (spec_hoExtended.J0_lim x0 x19) (fun _ => rfl) (by
  simp only [spec_hoExtended.j0]
  repeat' (first | (with_reducible first | exact Lim.const _ | exact spec_hoExtended.L0_lim _ _ _ _ _ | refine Lim.ite ?_ ?_ | refine Lim.bind ?_ (fun _ => ?_))))
theorem spec_hoExtended.L0_eq (x0 : List Int) (x3 : Int) (x20 : List Int) (x21 : Int) (x22 : Int) : spec_hoExtended.L0 x0 x3 x20 x21 x22 = (if x22 < x21 then (if 0 ≤ x22 then (if x22 < (x20.length : Int) then (if (rd x20 x22) = 0 then (if (rd x20 x22) > (wrap64 ((x0.length : Int) / 2)) then (some false) else (spec_hoExtended.L0 x0 (wrap64 (x3 + 1)) x20 x21 (wrap64 (x22 + 1)))) else (if (rd x20 x22) > (wrap64 ((x0.length : Int) / 2)) then (some false) else (spec_hoExtended.L0 x0 x3 x20 x21 (wrap64 (x22 + 1))))) else (none)) else (none)) else (some (x3 == 1))) :=
 Lim.step (f := fun k => spec_hoExtended.l0 (k + 1) x0 x3 x20 x21 x22) (spec_hoExtended.L0_lim x0 x3 x20 x21 x22) (fun _ => rfl) (by
  simp only [spec_hoExtended.l0]
  repeat' (first | (with_reducible first | exact Lim.const _ | exact spec_hoExtended.L0_lim _ _ _ _ _ | refine Lim.ite ?_ ?_ | refine Lim.bind ?_ (fun _ => ?_))))
theorem spec_hoExtended.F_eq (l0 : List Int) : spec_hoExtended.F l0 = (if (l0.length : Int) < 3 then (spec_hoExtended.J0 l0 true) else (if ((l0.length : Int) % 2) = 0 then (spec_hoExtended.J0 l0 true) else ((spec_roFits.F l0 0).bind fun t1211 => (spec_hoExtended.J0 l0 (!t1211))))) :=
 Lim.unique (spec_hoExtended.F_lim l0) (by
  unfold spec_hoExtended.f
  repeat' (first | (with_reducible first | exact Lim.const _ | exact spec_hoExtended.J0_lim _ _ | exact spec_roFits.F_lim _ _ | refine Lim.ite ?_ ?_ | refine Lim.bind ?_ (fun _ => ?_))))

end Go.Proofs.Ytaohgllnoomaeaa.Fn
namespace Go.Proofs.Ytaohgllnoomaeaa.Fn
open Go.RowKit Go.Proofs.YtaohgllnoomaeaaW.PrintWords Go.Proofs.YtaohgllnoomaeaaW.PrintLast Go.Proofs.YtaohgllnoomaeaaW.PrintMore
attribute [local go_sem] max2_int min2_int max_two min_two max_three min_three max_four min_four   -- for this text's walks alone
set_option linter.unusedVariables false
set_option linter.unusedSimpArgs false

/-! ### spec_hoHole: function 226 -/
def spec_hoHole.l0 : Nat → List Int → Int → Int → Option (Int)
 | 0, _, _, _ => none
 | k + 1, x5, x6, x7 => if x7 < x6 then (if 0 ≤ x7 then (if x7 < (x5.length : Int) then (if (rd x5 x7) = 0 then (some x7) else (spec_hoHole.l0 k x5 x6 (wrap64 (x7 + 1)))) else (none)) else (none)) else (some (-1))
def spec_hoHole.f (k : Nat) (l0 : List Int) : Option (Int) := spec_hoHole.l0 k l0 (l0.length : Int) 0
theorem spec_hoHole.mono_l : ∀ k, (∀ y0 y1 y2, LeO (spec_hoHole.l0 k y0 y1 y2) (spec_hoHole.l0 (k + 1) y0 y1 y2))
 | 0 => fun _ _ _ r h => by simp [spec_hoHole.l0] at h
 | k + 1 => by
  have ih0 := spec_hoHole.mono_l k
  ·intro y0 y1 y2
   unfold spec_hoHole.l0
   repeat' (first | (with_reducible first | exact ih0 _ _ _ | exact LeO.refl _ | exact LeO.none _ | refine LeO.ite ?_ ?_ | refine LeO.bind ?_ (fun _ => ?_)) | exact ih0 _ _ _ | exact LeO.none _ | refine LeO.ite ?_ ?_ | refine LeO.bind ?_ (fun _ => ?_))
theorem spec_hoHole.mono : ∀ a0 k, LeO (spec_hoHole.f k a0) (spec_hoHole.f (k + 1) a0) := by
 intro a0 k
 have ih0 := spec_hoHole.mono_l k
 unfold spec_hoHole.f
 repeat' (first | (with_reducible first | exact ih0 _ _ _ | exact LeO.refl _ | exact LeO.none _ | refine LeO.ite ?_ ?_ | refine LeO.bind ?_ (fun _ => ?_)) | exact ih0 _ _ _ | exact LeO.none _ | refine LeO.ite ?_ ?_ | refine LeO.bind ?_ (fun _ => ?_))
set_option maxHeartbeats 8000000 in
set_option maxRecDepth 100000 in
theorem spec_hoHole.calls (k : Nat) (A0 : Option Addr) (c0 : Nat) (l0 : List Int) (r : Int) (w : World) (hr0 : Kd.C (Kd.int .i64) w A0 l0.length l0) (hc0 : l0.length ≤ c0) (h : spec_hoHole.f k l0 = some r) :
  Calls Try.prog 226 #[.slice A0 l0.length c0] w fun e w' => e = .returned (.int .i64 r) ∧ Drawn0 w w' := by
 have HR0 := Aside0.mk hr0
 have HC0 := Aside0.mk hc0
 clear hr0 hc0
 have H := h
 unfold spec_hoHole.f at H
 clear h
 have H' := Aside0.mk H
 clear H
 go_enter Try.func226, Try.ntmps226
 go_wp2
 go_loopg [7] k (fun kq v7 w' => ∃ (x7_1 : Int), v7 = .int .i64 x7_1 ∧ Aside0 (spec_hoHole.l0 kq l0 (l0.length : Int) x7_1 = some r) ∧ Aside0 (kq ≤ k) ∧ Drawn0 w w')
 case atStart => exact ⟨(0), eqd, H', ⟨Nat.le_refl _⟩, by repeat (first | exact Drawn0.refl _ | apply Drawn0.step)⟩
 case round =>
  clear H'
  obtain ⟨x7_1, rfl, HA, HK1, ⟨m1, rfl⟩⟩ := hrel
  cases gk with
  | zero => exact absurd HA.out (by simp [spec_hoHole.l0])
  | succ k1 =>
   have H := HA.out
   clear HA
   simp only [spec_hoHole.l0] at H
   by_cases c2 : x7_1 < (l0.length : Int)
   ·rw [if_pos c2] at H
    have c2b0 : decide (x7_1 < (l0.length : Int)) = true := decide_eq_true c2
    clear c2
    by_cases c3 : 0 ≤ x7_1
    ·rw [if_pos c3] at H
     have c3b0 : decide (0 ≤ x7_1) = true := decide_eq_true c3
     clear c3
     by_cases c4 : x7_1 < (l0.length : Int)
     ·rw [if_pos c4] at H
      have c4b0 : decide (x7_1 < (l0.length : Int)) = true := decide_eq_true c4
      clear c4
      by_cases c5 : (rd l0 x7_1) = 0
      ·rw [if_pos c5] at H
       have c5b0 : ((rd l0 x7_1) == 0) = true := beq_iff_eq.mpr c5
       have c5b1 : ((rd l0 x7_1) != 0) = false := bne_eq_false_iff_eq.mpr c5
       clear c5
       obtain rfl := Option.some.inj H
       have p1213 : 0 ≤ (x7_1 : Int) := ofd
       have q1213 : x7_1 < (l0.length : Int) := ofd
       obtain ⟨ad1213, e1213, hx1213_0⟩ := Kd.at_int HR0.out x7_1 p1213 q1213
       cases e1213
       replace p1213 := eq_true p1213
       replace q1213 := eq_true q1213
       go_wp2
       go_ret
       exact ⟨by first | rfl | (simp; done) | (simp [*]; done), by repeat (first | exact Drawn0.refl _ | apply Drawn0.step)⟩
      ·rw [if_neg c5] at H
       have c5b0 : ((rd l0 x7_1) == 0) = false := beq_eq_false_iff_ne.mpr c5
       have c5b1 : ((rd l0 x7_1) != 0) = true := bne_iff_ne.mpr c5
       have H' := Aside0.mk H
       clear H
       have p1213 : 0 ≤ (x7_1 : Int) := ofd
       have q1213 : x7_1 < (l0.length : Int) := ofd
       obtain ⟨ad1213, e1213, hx1213_0⟩ := Kd.at_int HR0.out x7_1 p1213 q1213
       cases e1213
       replace p1213 := eq_true p1213
       replace q1213 := eq_true q1213
       go_wp2
       go_roundg k1
       case measure => have := HK1.out; omega
       case rel => exact ⟨(wrap64 (x7_1 + 1)), eqd, H', ⟨by have := HK1.out; omega⟩, by repeat (first | exact Drawn0.refl _ | apply Drawn0.step)⟩
     ·rw [if_neg c4] at H
      exact absurd H (by simp)
    ·rw [if_neg c3] at H
     exact absurd H (by simp)
   ·rw [if_neg c2] at H
    have c2b0 : decide (x7_1 < (l0.length : Int)) = false := decide_eq_false c2
    clear c2
    obtain rfl := Option.some.inj H
    go_wp2
    go_ret
    exact ⟨by first | rfl | (simp; done) | (simp [*]; done), by repeat (first | exact Drawn0.refl _ | apply Drawn0.step)⟩

noncomputable def spec_hoHole.L0 (x5 : List Int) (x6 : Int) (x7 : Int) : Option (Int) := lim fun k => spec_hoHole.l0 k x5 x6 x7
theorem spec_hoHole.L0_lim (x5 : List Int) (x6 : Int) (x7 : Int) : Lim (fun k => spec_hoHole.l0 k x5 x6 x7) (spec_hoHole.L0 x5 x6 x7) := Lim.of fun k => (spec_hoHole.mono_l k) x5 x6 x7
noncomputable def spec_hoHole.F (l0 : List Int) : Option (Int) := lim fun k => spec_hoHole.f k l0
theorem spec_hoHole.F_lim (l0 : List Int) : Lim (fun k => spec_hoHole.f k l0) (spec_hoHole.F l0) := Lim.of fun k => spec_hoHole.mono l0 k
theorem spec_hoHole.L0_eq (x5 : List Int) (x6 : Int) (x7 : Int) : spec_hoHole.L0 x5 x6 x7 = (if x7 < x6 then (if 0 ≤ x7 then (if x7 < (x5.length : Int) then (if (rd x5 x7) = 0 then (some x7) else (spec_hoHole.L0 x5 x6 (wrap64 (x7 + 1)))) else (none)) else (none)) else (some (-1))) :=
 Lim.step (f := fun k => spec_hoHole.l0 (k + 1) x5 x6 x7) (spec_hoHole.L0_lim x5 x6 x7) (fun _ => rfl) (by
  simp only [spec_hoHole.l0]
  repeat' (first | (with_reducible first | exact Lim.const _ | exact spec_hoHole.L0_lim _ _ _ | refine Lim.ite ?_ ?_ | refine Lim.bind ?_ (fun _ => ?_))))
theorem spec_hoHole.F_eq (l0 : List Int) : spec_hoHole.F l0 = (spec_hoHole.L0 l0 (l0.length : Int) 0) :=
 Lim.unique (spec_hoHole.F_lim l0) (by
  unfold spec_hoHole.f
  repeat' (first | (with_reducible first | exact Lim.const _ | exact spec_hoHole.L0_lim _ _ _ | refine Lim.ite ?_ ?_ | refine Lim.bind ?_ (fun _ => ?_))))

end Go.Proofs.Ytaohgllnoomaeaa.Fn
namespace Go.Proofs.Ytaohgllnoomaeaa.Fn
open Go.RowKit Go.Proofs.YtaohgllnoomaeaaW.PrintWords Go.Proofs.YtaohgllnoomaeaaW.PrintLast Go.Proofs.YtaohgllnoomaeaaW.PrintMore
attribute [local go_sem] max2_int min2_int max_two min_two max_three min_three max_four min_four   -- for this text's walks alone
set_option linter.unusedVariables false
set_option linter.unusedSimpArgs false

/-! ### spec_SkolemOfExtended: function 118 -/
def spec_SkolemOfExtended.j0 : Nat → List Int → Bool → Option (List Int × Bool)
 | 0, _, _ => none
 | k + 1, x0, x11 => if x11 = true then (some (([] : List Int), false)) else ((spec_hoHole.f k x0).bind fun t1216 => (if t1216 = 0 then (if 1 ≤ (x0.length : Int) then ((spec_l1Own.f (x0.drop 1)).bind fun t1218 => (some (t1218, true))) else (none)) else (if t1216 = (wrap64 ((x0.length : Int) - 1)) then (if 0 ≤ (wrap64 ((x0.length : Int) - 1)) then (if (wrap64 ((x0.length : Int) - 1)) ≤ (x0.length : Int) then ((spec_l1Own.f (x0.take ((wrap64 ((x0.length : Int) - 1)) : Int).toNat)).bind fun t1222 => (some (t1222, true))) else (none)) else (none)) else (some (([] : List Int), false)))))
def spec_SkolemOfExtended.f (k : Nat) (l0 : List Int) : Option (List Int × Bool) := (spec_roIs.f k l0).bind fun t1214 => (if t1214 = true then ((spec_hoExtended.f k l0).bind fun t1215 => (spec_SkolemOfExtended.j0 k l0 (!t1215))) else (spec_SkolemOfExtended.j0 k l0 true))
theorem spec_SkolemOfExtended.mono_l : ∀ k, (∀ y0 y1, LeO (spec_SkolemOfExtended.j0 k y0 y1) (spec_SkolemOfExtended.j0 (k + 1) y0 y1))
 | 0 => fun _ _ r h => by simp [spec_SkolemOfExtended.j0] at h
 | k + 1 => by
  have ih0 := spec_SkolemOfExtended.mono_l k
  ·intro y0 y1
   unfold spec_SkolemOfExtended.j0
   repeat' (first | (with_reducible first | exact spec_hoHole.mono _ _ | exact LeO.refl _ | exact LeO.none _ | refine LeO.ite ?_ ?_ | refine LeO.bind ?_ (fun _ => ?_)) | exact spec_hoHole.mono _ _ | exact LeO.none _ | refine LeO.ite ?_ ?_ | refine LeO.bind ?_ (fun _ => ?_))
theorem spec_SkolemOfExtended.mono : ∀ a0 k, LeO (spec_SkolemOfExtended.f k a0) (spec_SkolemOfExtended.f (k + 1) a0) := by
 intro a0 k
 have ih0 := spec_SkolemOfExtended.mono_l k
 unfold spec_SkolemOfExtended.f
 repeat' (first | (with_reducible first | exact ih0 _ _ | exact spec_hoExtended.mono _ _ | exact spec_roIs.mono _ _ | exact LeO.refl _ | exact LeO.none _ | refine LeO.ite ?_ ?_ | refine LeO.bind ?_ (fun _ => ?_)) | exact ih0 _ _ | exact spec_hoExtended.mono _ _ | exact spec_roIs.mono _ _ | exact LeO.none _ | refine LeO.ite ?_ ?_ | refine LeO.bind ?_ (fun _ => ?_))
set_option maxHeartbeats 8000000 in
set_option maxRecDepth 100000 in
theorem spec_SkolemOfExtended.calls (k : Nat) (A0 : Option Addr) (c0 : Nat) (l0 : List Int) (r1 : List Int) (r2 : Bool) (w : World) (hr0 : Kd.C (Kd.int .i64) w A0 l0.length l0) (hc0 : l0.length ≤ c0) (h : spec_SkolemOfExtended.f k l0 = some (r1, r2)) :
  Calls Try.prog 118 #[.slice A0 l0.length c0] w fun e w' => ∃ v0_ : Value, e = .returned (.tuple #[v0_, .bool r2]) ∧ Kd.R (Kd.int .i64) 3 w' w.heap.size (fun _ => True) v0_ r1 ∧ Below w.heap.size w w' := by
 have HR0 := Aside0.mk hr0
 have HC0 := Aside0.mk hc0
 clear hr0 hc0
 have HB := Aside0.mk (Below.refl w.heap.size w)
 have H := h
 unfold spec_SkolemOfExtended.f at H
 clear h
 have HC2 := Aside0.mk H
 clear H
 go_enter Try.func118, Try.ntmps118
 go_upto_region 1 with (fail)
 go_cut [11] (fun v11 wc => ∃ (kq : Nat) (x11_1 : Bool), v11 = .bool x11_1 ∧ Aside0 (spec_SkolemOfExtended.j0 kq l0 x11_1 = some (r1, r2)) ∧ Aside0 (kq ≤ k) ∧ Aside0 (Below w.heap.size w wc))
 case first =>
  have H := HC2.out
  clear HC2
  replace H := Option.bind_eq_some_iff.mp H
  obtain ⟨t1214, A30, H⟩ := H
  replace H : (if t1214 = true then ((spec_hoExtended.f k l0).bind fun t1215 => (spec_SkolemOfExtended.j0 k l0 (!t1215))) else (spec_SkolemOfExtended.j0 k l0 true)) = some (r1, r2) := H
  have A3 := Aside0.mk A30
  clear A30
  by_cases c4 : t1214 = true
  ·subst c4
   have H1 : ((spec_hoExtended.f k l0).bind fun t1215 => (spec_SkolemOfExtended.j0 k l0 (!t1215))) = some (r1, r2) := by rw [if_pos rfl] at H; exact H
   clear H
   have H := H1
   clear H1
   replace H := Option.bind_eq_some_iff.mp H
   obtain ⟨t1215, A50, H⟩ := H
   replace H : (spec_SkolemOfExtended.j0 k l0 (!t1215)) = some (r1, r2) := H
   have A5 := Aside0.mk A50
   clear A50
   have H' := Aside0.mk H
   clear H
   go_wp2_with (first | ((with_reducible refine gate_callee (f := 177) rfl ?_); refine goesA (some 5) Try.func177 #[.slice A0 l0.length c0] ?_; (with_reducible refine (spec_roIs.calls k _ _ l0 true _ ?side1 ?side2 A3.out).mono ?_); (case side1 => repeat (first | exact (Kd.C_below HR0.out HB.out) | (with_reducible refine Kd.C_alloc ?_ _) | (with_reducible refine Kd.C_drewN ?_ _) | (with_reducible refine Kd.C_drew ?_))); (case side2 => exact HC0.out); rintro e w6 ⟨rfl, hb⟩; refine ⟨_, rfl, ?_⟩; replace HB := upB HB hb; (try clear hb); (try clear hb2); (try clear hk); (try clear hi)) | (go_at_call 225; (with_reducible refine (spec_hoExtended.calls k _ _ l0 t1215 _ ?side1 ?side2 A5.out).mono ?_); (case side1 => repeat (first | exact (Kd.C_below HR0.out HB.out) | (with_reducible refine Kd.C_alloc ?_ _) | (with_reducible refine Kd.C_drewN ?_ _) | (with_reducible refine Kd.C_drew ?_))); (case side2 => exact HC0.out); rintro e w7 ⟨rfl, hb⟩; replace HB := upB HB hb; (try clear hb); (try clear hb2); (try clear hk); (try clear hi)))
   go_meet
   case rel => exact ⟨_, (!t1215), eqd, H', ⟨leD⟩, ⟨atB HB⟩⟩
  ·replace c4 := Bool.eq_false_iff.mpr c4
   subst c4
   have H1 : (spec_SkolemOfExtended.j0 k l0 true) = some (r1, r2) := by rw [if_neg (show ¬ (false = true) by decide)] at H; exact H
   clear H
   have H := H1
   clear H1
   have H' := Aside0.mk H
   clear H
   go_wp2_with (first | ((with_reducible refine gate_callee (f := 177) rfl ?_); refine goesA (some 5) Try.func177 #[.slice A0 l0.length c0] ?_; (with_reducible refine (spec_roIs.calls k _ _ l0 false _ ?side1 ?side2 A3.out).mono ?_); (case side1 => repeat (first | exact (Kd.C_below HR0.out HB.out) | (with_reducible refine Kd.C_alloc ?_ _) | (with_reducible refine Kd.C_drewN ?_ _) | (with_reducible refine Kd.C_drew ?_))); (case side2 => exact HC0.out); rintro e w8 ⟨rfl, hb⟩; refine ⟨_, rfl, ?_⟩; replace HB := upB HB hb; (try clear hb); (try clear hb2); (try clear hk); (try clear hi)))
   go_meet
   case rel => exact ⟨_, (true), eqd, H', ⟨leD⟩, ⟨atB HB⟩⟩
 case rest =>
  clear HC2
  try clear c1
  try clear p2
  try clear c4
  obtain ⟨kq, x11_1, rfl, HA, HJ1, HB⟩ := hcut
  cases kq with
  | zero => exact absurd HA.out (by simp [spec_SkolemOfExtended.j0])
  | succ kj1 =>
   have H := HA.out
   clear HA
   simp only [spec_SkolemOfExtended.j0] at H
   by_cases c9 : x11_1 = true
   ·subst c9
    have H1 : (some (([] : List Int), false)) = some (r1, r2) := by rw [if_pos rfl] at H; exact H
    clear H
    have H := H1
    clear H1
    simp only [Option.some.injEq, Prod.mk.injEq] at H
    obtain ⟨rfl, rfl⟩ := H
    go_wp2
    go_ret2
    exact ⟨_, eqr, by first | exact Kd.R_nil _ _ _ _ _ | exact Kd.N_nil _ _ _ _ _ | exact Kd.V_nil _ _ _ _ _ | exact Kd.Q_nil _ _ _ _ _ | exact Kd.S_nil _ _ _ _ _, atB HB⟩
   ·replace c9 := Bool.eq_false_iff.mpr c9
    subst c9
    have H1 : ((spec_hoHole.f kj1 l0).bind fun t1216 => (if t1216 = 0 then (if 1 ≤ (l0.length : Int) then ((spec_l1Own.f (l0.drop 1)).bind fun t1218 => (some (t1218, true))) else (none)) else (if t1216 = (wrap64 ((l0.length : Int) - 1)) then (if 0 ≤ (wrap64 ((l0.length : Int) - 1)) then (if (wrap64 ((l0.length : Int) - 1)) ≤ (l0.length : Int) then ((spec_l1Own.f (l0.take ((wrap64 ((l0.length : Int) - 1)) : Int).toNat)).bind fun t1222 => (some (t1222, true))) else (none)) else (none)) else (some (([] : List Int), false))))) = some (r1, r2) := by rw [if_neg (show ¬ (false = true) by decide)] at H; exact H
    clear H
    have H := H1
    clear H1
    replace H := Option.bind_eq_some_iff.mp H
    obtain ⟨t1216, A100, H⟩ := H
    replace H : (if t1216 = 0 then (if 1 ≤ (l0.length : Int) then ((spec_l1Own.f (l0.drop 1)).bind fun t1218 => (some (t1218, true))) else (none)) else (if t1216 = (wrap64 ((l0.length : Int) - 1)) then (if 0 ≤ (wrap64 ((l0.length : Int) - 1)) then (if (wrap64 ((l0.length : Int) - 1)) ≤ (l0.length : Int) then ((spec_l1Own.f (l0.take ((wrap64 ((l0.length : Int) - 1)) : Int).toNat)).bind fun t1222 => (some (t1222, true))) else (none)) else (none)) else (some (([] : List Int), false)))) = some (r1, r2) := H
    have A10 := Aside0.mk A100
    clear A100
    by_cases c11 : t1216 = 0
    ·rw [if_pos c11] at H
     have c11b0 : (t1216 == 0) = true := beq_iff_eq.mpr c11
     have c11b1 : (t1216 != 0) = false := bne_eq_false_iff_eq.mpr c11
     clear c11
     by_cases c12 : 1 ≤ (l0.length : Int)
     ·rw [if_pos c12] at H
      have c12b0 := eq_true c12
      have c12b1 : decide (1 ≤ (l0.length : Int)) = true := decide_eq_true c12
      clear c12
      replace H := Option.bind_eq_some_iff.mp H
      obtain ⟨t1218, A130, H⟩ := H
      replace H : (some (t1218, true)) = some (r1, r2) := H
      have A13 := Aside0.mk A130
      clear A130
      simp only [Option.some.injEq, Prod.mk.injEq] at H
      obtain ⟨rfl, rfl⟩ := H
      go_wp2_with (first | ((with_reducible refine gate_callee (f := 226) rfl ?_); refine goesA (some 13) Try.func226 #[.slice A0 l0.length c0] ?_; (with_reducible refine (spec_hoHole.calls kj1 _ _ l0 t1216 _ ?side1 ?side2 A10.out).mono ?_); (case side1 => repeat (first | exact (Kd.C_below HR0.out HB.out) | (with_reducible refine Kd.C_alloc ?_ _) | (with_reducible refine Kd.C_drewN ?_ _) | (with_reducible refine Kd.C_drew ?_))); (case side2 => exact HC0.out); rintro e w' ⟨rfl, ⟨nd, rfl⟩⟩; refine ⟨_, rfl, ?_⟩; obtain ⟨i014, hi014, _, hsz14, _⟩ := info_parts info3; obtain ⟨A14, hcut14, hA14, hC14⟩ := print_drop_of (P := Try.prog) (Value.int .i64) 0 31 3 .i64 Try.underlying31 hi014 hsz14 A0 c0 l0 1 (by omega) (of_decide_eq_true (by first | (with_reducible assumption) | assumption)) HC0.out; have HR1217 := Aside0.mk (Kd.C_of_reads (h1 := fun _ => rfl) (hA14 _ (Kd.reads_of_C HR0.out))); have HC1217 := Aside0.mk hC14; clear hA14 hC14 hi014 hsz14) | ((with_reducible refine gate_callee (f := 194) rfl ?_); refine goesL_ (some 18) rfl rfl Try.func194 (by kernel_rfl) rfl #[.slice A14 (l0.drop 1).length (c0 - 1)] rfl (by (try simp only [List.map_toArray, List.map_cons, List.map_nil]); first | done | (rw [show (l0.drop 1).length = (l0.length - 1) from List.length_drop] <;> rfl) | rfl | (simp only [List.length_drop, List.length_take]; rfl)) ?_; (with_reducible refine (spec_l1Own.calls _ _ (l0.drop 1) t1218 _ ?side1 ?side2 A13.out).mono ?_); (case side1 => repeat (first | exact (Kd.C_below HR1217.out (atB HB)) | (with_reducible refine Kd.C_alloc ?_ _) | (with_reducible refine Kd.C_drewN ?_ _) | (with_reducible refine Kd.C_drew ?_))); (case side2 => exact HC1217.out); rintro e w15 ⟨v1219, rfl, ho0, hb⟩; refine ⟨_, rfl, ?_⟩; have HO1220 := lowR ho0 HB; replace HB := upB HB hb; (try clear hb); (try clear hb2); (try clear hk); (try clear hi); (try clear ho0)))
      go_ret2
      exact ⟨_, eqr, atR HO1220, atB HB⟩
     ·rw [if_neg c12] at H
      exact absurd H (by simp)
    ·rw [if_neg c11] at H
     have c11b0 : (t1216 == 0) = false := beq_eq_false_iff_ne.mpr c11
     have c11b1 : (t1216 != 0) = true := bne_iff_ne.mpr c11
     by_cases c16 : t1216 = (wrap64 ((l0.length : Int) - 1))
     ·rw [if_pos c16] at H
      have c16b0 : (t1216 == (wrap64 ((l0.length : Int) - 1))) = true := beq_iff_eq.mpr c16
      have c16b1 : (t1216 != (wrap64 ((l0.length : Int) - 1))) = false := bne_eq_false_iff_eq.mpr c16
      clear c16
      obtain ⟨ji17, hji17⟩ : ∃ j_ : Int, (wrap64 ((l0.length : Int) - 1)) = j_ := ⟨_, rfl⟩
      replace H : (if 0 ≤ (ji17) then (if (ji17) ≤ (l0.length : Int) then ((spec_l1Own.f (l0.take ((ji17) : Int).toNat)).bind fun t1222 => (some (t1222, true))) else (none)) else (none)) = some (r1, r2) := by first | (rw [hji17] at H; exact H) | (simp only [hji17] at H ⊢; exact H)
      (try rw [hji17] at c16b0)
      (try rw [hji17] at c16b1)
      (try rw [hji17] at A10)
      have hji17w : (IntKind.i64.wrap ((l0.length : Int) - 1)) = ji17 := (i64_w _).trans hji17
      by_cases c18 : 0 ≤ (ji17)
      ·rw [if_pos c18] at H
       have c18b0 := eq_true c18
       have c18b1 : decide (0 ≤ (ji17)) = true := decide_eq_true c18
       clear c18
       by_cases c19 : (ji17) ≤ (l0.length : Int)
       ·rw [if_pos c19] at H
        have c19b0 := eq_true c19
        have c19b1 : decide ((ji17) ≤ (l0.length : Int)) = true := decide_eq_true c19
        clear c19
        replace H := Option.bind_eq_some_iff.mp H
        obtain ⟨t1222, A200, H⟩ := H
        replace H : (some (t1222, true)) = some (r1, r2) := H
        have A20 := Aside0.mk A200
        clear A200
        simp only [Option.some.injEq, Prod.mk.injEq] at H
        obtain ⟨rfl, rfl⟩ := H
        go_wp2_with (first | ((with_reducible refine gate_callee (f := 226) rfl ?_); refine goesA (some 13) Try.func226 #[.slice A0 l0.length c0] ?_; (with_reducible refine (spec_hoHole.calls kj1 _ _ l0 t1216 _ ?side1 ?side2 A10.out).mono ?_); (case side1 => repeat (first | exact (Kd.C_below HR0.out HB.out) | (with_reducible refine Kd.C_alloc ?_ _) | (with_reducible refine Kd.C_drewN ?_ _) | (with_reducible refine Kd.C_drew ?_))); (case side2 => exact HC0.out); rintro e w' ⟨rfl, ⟨nd, rfl⟩⟩; refine ⟨_, rfl, ?_⟩; obtain ⟨i021, hi021, _, hsz21, _⟩ := info_parts info3; obtain ⟨hcut21, hA21, hC21⟩ := print_take_of (P := Try.prog) (Value.int .i64) 0 31 3 .i64 Try.underlying31 hi021 hsz21 A0 c0 l0 (ji17) (of_decide_eq_true (by first | (with_reducible assumption) | assumption)) (of_decide_eq_true (by first | (with_reducible assumption) | assumption)) HC0.out; have HR1221 := Aside0.mk (Kd.C_of_reads (h1 := fun _ => rfl) (hA21 _ (Kd.reads_of_C HR0.out))); have HC1221 := Aside0.mk hC21; clear hA21 hC21 hi021 hsz21) | ((with_reducible refine gate_callee (f := 194) rfl ?_); refine goesL_ (some 29) rfl rfl Try.func194 (by kernel_rfl) rfl #[.slice A0 (l0.take ((ji17) : Int).toNat).length c0] rfl (by (try simp only [List.map_toArray, List.map_cons, List.map_nil]); first | done | (rw [show (l0.take ((ji17) : Int).toNat).length = (ji17).toNat from (by rw [List.length_take]; have h_ : ((ji17) : Int) ≤ (l0.length : Int) := ofd; omega)] <;> rfl) | (simp only [hji17]; rfl) | rfl | (simp only [List.length_drop, List.length_take]; rfl)) ?_; (with_reducible refine (spec_l1Own.calls _ _ (l0.take ((ji17) : Int).toNat) t1222 _ ?side1 ?side2 A20.out).mono ?_); (case side1 => repeat (first | exact (Kd.C_below HR1221.out (atB HB)) | (with_reducible refine Kd.C_alloc ?_ _) | (with_reducible refine Kd.C_drewN ?_ _) | (with_reducible refine Kd.C_drew ?_))); (case side2 => exact HC1221.out); rintro e w22 ⟨v1223, rfl, ho0, hb⟩; refine ⟨_, rfl, ?_⟩; have HO1224 := lowR ho0 HB; replace HB := upB HB hb; (try clear hb); (try clear hb2); (try clear hk); (try clear hi); (try clear ho0)))
        go_ret2
        exact ⟨_, by first | rfl | (simp [errW_none, errW_some] <;> rfl) | (simp only [← hji17]; first | rfl | (simp [errW_none, errW_some] <;> rfl)) | (simp [*, errW_none, errW_some] <;> rfl), atR HO1224, atB HB⟩
       ·rw [if_neg c19] at H
        exact absurd H (by simp)
      ·rw [if_neg c18] at H
       exact absurd H (by simp)
     ·rw [if_neg c16] at H
      have c16b0 : (t1216 == (wrap64 ((l0.length : Int) - 1))) = false := beq_eq_false_iff_ne.mpr c16
      have c16b1 : (t1216 != (wrap64 ((l0.length : Int) - 1))) = true := bne_iff_ne.mpr c16
      simp only [Option.some.injEq, Prod.mk.injEq] at H
      obtain ⟨rfl, rfl⟩ := H
      go_wp2_with (first | ((with_reducible refine gate_callee (f := 226) rfl ?_); refine goesA (some 13) Try.func226 #[.slice A0 l0.length c0] ?_; (with_reducible refine (spec_hoHole.calls kj1 _ _ l0 t1216 _ ?side1 ?side2 A10.out).mono ?_); (case side1 => repeat (first | exact (Kd.C_below HR0.out HB.out) | (with_reducible refine Kd.C_alloc ?_ _) | (with_reducible refine Kd.C_drewN ?_ _) | (with_reducible refine Kd.C_drew ?_))); (case side2 => exact HC0.out); rintro e w' ⟨rfl, ⟨nd, rfl⟩⟩; refine ⟨_, rfl, ?_⟩))
      go_ret2
      exact ⟨_, eqr, by first | exact Kd.R_nil _ _ _ _ _ | exact Kd.N_nil _ _ _ _ _ | exact Kd.V_nil _ _ _ _ _ | exact Kd.Q_nil _ _ _ _ _ | exact Kd.S_nil _ _ _ _ _, atB HB⟩

noncomputable def spec_SkolemOfExtended.J0 (x0 : List Int) (x11 : Bool) : Option (List Int × Bool) := lim fun k => spec_SkolemOfExtended.j0 k x0 x11
theorem spec_SkolemOfExtended.J0_lim (x0 : List Int) (x11 : Bool) : Lim (fun k => spec_SkolemOfExtended.j0 k x0 x11) (spec_SkolemOfExtended.J0 x0 x11) := Lim.of fun k => (spec_SkolemOfExtended.mono_l k) x0 x11
noncomputable def spec_SkolemOfExtended.F (l0 : List Int) : Option (List Int × Bool) := lim fun k => spec_SkolemOfExtended.f k l0
theorem spec_SkolemOfExtended.F_lim (l0 : List Int) : Lim (fun k => spec_SkolemOfExtended.f k l0) (spec_SkolemOfExtended.F l0) := Lim.of fun k => spec_SkolemOfExtended.mono l0 k
theorem spec_SkolemOfExtended.J0_eq (x0 : List Int) (x11 : Bool) : spec_SkolemOfExtended.J0 x0 x11 = (if x11 = true then (some (([] : List Int), false)) else ((spec_hoHole.F x0).bind fun t1216 => (if t1216 = 0 then (if 1 ≤ (x0.length : Int) then ((spec_l1Own.f (x0.drop 1)).bind fun t1218 => (some (t1218, true))) else (none)) else (if t1216 = (wrap64 ((x0.length : Int) - 1)) then (if 0 ≤ (wrap64 ((x0.length : Int) - 1)) then (if (wrap64 ((x0.length : Int) - 1)) ≤ (x0.length : Int) then ((spec_l1Own.f (x0.take ((wrap64 ((x0.length : Int) - 1)) : Int).toNat)).bind fun t1222 => (some (t1222, true))) else (none)) else (none)) else (some (([] : List Int), false)))))) :=
 Lim.step (f := fun k => spec_SkolemOfExtended.j0 (k + 1) x0 x11) (spec_SkolemOfExtended.J0_lim x0 x11) (fun _ => rfl) (by
  simp only [spec_SkolemOfExtended.j0]
  repeat' (first | (with_reducible first | exact Lim.const _ | exact spec_hoHole.F_lim _ | refine Lim.ite ?_ ?_ | refine Lim.bind ?_ (fun _ => ?_))))
theorem spec_SkolemOfExtended.F_eq (l0 : List Int) : spec_SkolemOfExtended.F l0 = ((spec_roIs.F l0).bind fun t1214 => (if t1214 = true then ((spec_hoExtended.F l0).bind fun t1215 => (spec_SkolemOfExtended.J0 l0 (!t1215))) else (spec_SkolemOfExtended.J0 l0 true))) :=
 Lim.unique (spec_SkolemOfExtended.F_lim l0) (by
  unfold spec_SkolemOfExtended.f
  repeat' (first | (with_reducible first | exact Lim.const _ | exact spec_SkolemOfExtended.J0_lim _ _ | exact spec_hoExtended.F_lim _ | exact spec_roIs.F_lim _ | refine Lim.ite ?_ ?_ | refine Lim.bind ?_ (fun _ => ?_))))

end Go.Proofs.Ytaohgllnoomaeaa.Fn
namespace Go.Proofs.Ytaohgllnoomaeaa.Fn
open Go.RowKit Go.Proofs.YtaohgllnoomaeaaW.PrintWords Go.Proofs.YtaohgllnoomaeaaW.PrintLast Go.Proofs.YtaohgllnoomaeaaW.PrintMore
attribute [local go_sem] max2_int min2_int max_two min_two max_three min_three max_four min_four   -- for this text's walks alone
set_option linter.unusedVariables false
set_option linter.unusedSimpArgs false

/-! ### spec_IsExtended: function 119 -/
def spec_IsExtended.f (k : Nat) (l0 : List Int) : Option (Bool × Bool) := (spec_roIs.f k l0).bind fun t1225 => (if t1225 = true then ((spec_hoExtended.f k l0).bind fun t1226 => (some (t1226, true))) else (some (false, false)))
theorem spec_IsExtended.mono : ∀ a0 k, LeO (spec_IsExtended.f k a0) (spec_IsExtended.f (k + 1) a0) := by
 intro a0 k
 unfold spec_IsExtended.f
 repeat' (first | (with_reducible first | exact spec_hoExtended.mono _ _ | exact spec_roIs.mono _ _ | exact LeO.refl _ | exact LeO.none _ | refine LeO.ite ?_ ?_ | refine LeO.bind ?_ (fun _ => ?_)) | exact spec_hoExtended.mono _ _ | exact spec_roIs.mono _ _ | exact LeO.none _ | refine LeO.ite ?_ ?_ | refine LeO.bind ?_ (fun _ => ?_))
set_option maxHeartbeats 8000000 in
set_option maxRecDepth 100000 in
theorem spec_IsExtended.calls (k : Nat) (A0 : Option Addr) (c0 : Nat) (l0 : List Int) (r1 : Bool) (r2 : Bool) (w : World) (hr0 : Kd.C (Kd.int .i64) w A0 l0.length l0) (hc0 : l0.length ≤ c0) (h : spec_IsExtended.f k l0 = some (r1, r2)) :
  Calls Try.prog 119 #[.slice A0 l0.length c0] w fun e w' => e = .returned (.tuple #[.bool r1, .bool r2]) ∧ Below w.heap.size w w' := by
 have HR0 := Aside0.mk hr0
 have HC0 := Aside0.mk hc0
 clear hr0 hc0
 have HB := Aside0.mk (Below.refl w.heap.size w)
 have H := h
 unfold spec_IsExtended.f at H
 clear h
 replace H := Option.bind_eq_some_iff.mp H
 obtain ⟨t1225, A20, H⟩ := H
 replace H : (if t1225 = true then ((spec_hoExtended.f k l0).bind fun t1226 => (some (t1226, true))) else (some (false, false))) = some (r1, r2) := H
 have A2 := Aside0.mk A20
 clear A20
 by_cases c3 : t1225 = true
 ·subst c3
  have H1 : ((spec_hoExtended.f k l0).bind fun t1226 => (some (t1226, true))) = some (r1, r2) := by rw [if_pos rfl] at H; exact H
  clear H
  have H := H1
  clear H1
  replace H := Option.bind_eq_some_iff.mp H
  obtain ⟨t1226, A40, H⟩ := H
  replace H : (some (t1226, true)) = some (r1, r2) := H
  have A4 := Aside0.mk A40
  clear A40
  simp only [Option.some.injEq, Prod.mk.injEq] at H
  obtain ⟨rfl, rfl⟩ := H
  go_enter Try.func119, Try.ntmps119
  go_wp2_with (first | ((with_reducible refine gate_callee (f := 177) rfl ?_); refine goesA (some 5) Try.func177 #[.slice A0 l0.length c0] ?_; (with_reducible refine (spec_roIs.calls k _ _ l0 true _ ?side1 ?side2 A2.out).mono ?_); (case side1 => repeat (first | exact HR0.out | (with_reducible refine Kd.C_alloc ?_ _) | (with_reducible refine Kd.C_drewN ?_ _) | (with_reducible refine Kd.C_drew ?_))); (case side2 => exact HC0.out); rintro e w5 ⟨rfl, hb⟩; refine ⟨_, rfl, ?_⟩; replace HB := upB HB hb; (try clear hb); (try clear hb2); (try clear hk); (try clear hi)) | ((with_reducible refine gate_callee (f := 225) rfl ?_); refine goesA (some 8) Try.func225 #[.slice A0 l0.length c0] ?_; (with_reducible refine (spec_hoExtended.calls k _ _ l0 t1226 _ ?side1 ?side2 A4.out).mono ?_); (case side1 => repeat (first | exact (Kd.C_below HR0.out HB.out) | (with_reducible refine Kd.C_alloc ?_ _) | (with_reducible refine Kd.C_drewN ?_ _) | (with_reducible refine Kd.C_drew ?_))); (case side2 => exact HC0.out); rintro e w6 ⟨rfl, hb⟩; refine ⟨_, rfl, ?_⟩; replace HB := upB HB hb; (try clear hb); (try clear hb2); (try clear hk); (try clear hi)))
  go_ret2
  exact ⟨eqr, atB HB⟩
 ·replace c3 := Bool.eq_false_iff.mpr c3
  subst c3
  have H1 : (some (false, false)) = some (r1, r2) := by rw [if_neg (show ¬ (false = true) by decide)] at H; exact H
  clear H
  have H := H1
  clear H1
  simp only [Option.some.injEq, Prod.mk.injEq] at H
  obtain ⟨rfl, rfl⟩ := H
  go_enter Try.func119, Try.ntmps119
  go_wp2_with (first | ((with_reducible refine gate_callee (f := 177) rfl ?_); refine goesA (some 5) Try.func177 #[.slice A0 l0.length c0] ?_; (with_reducible refine (spec_roIs.calls k _ _ l0 false _ ?side1 ?side2 A2.out).mono ?_); (case side1 => repeat (first | exact HR0.out | (with_reducible refine Kd.C_alloc ?_ _) | (with_reducible refine Kd.C_drewN ?_ _) | (with_reducible refine Kd.C_drew ?_))); (case side2 => exact HC0.out); rintro e w7 ⟨rfl, hb⟩; refine ⟨_, rfl, ?_⟩; replace HB := upB HB hb; (try clear hb); (try clear hb2); (try clear hk); (try clear hi)))
  go_ret2
  exact ⟨eqr, atB HB⟩

noncomputable def spec_IsExtended.F (l0 : List Int) : Option (Bool × Bool) := lim fun k => spec_IsExtended.f k l0
theorem spec_IsExtended.F_lim (l0 : List Int) : Lim (fun k => spec_IsExtended.f k l0) (spec_IsExtended.F l0) := Lim.of fun k => spec_IsExtended.mono l0 k
theorem spec_IsExtended.F_eq (l0 : List Int) : spec_IsExtended.F l0 = ((spec_roIs.F l0).bind fun t1225 => (if t1225 = true then ((spec_hoExtended.F l0).bind fun t1226 => (some (t1226, true))) else (some (false, false)))) :=
 Lim.unique (spec_IsExtended.F_lim l0) (by
  unfold spec_IsExtended.f
  repeat' (first | (with_reducible first | exact Lim.const _ | exact spec_hoExtended.F_lim _ | exact spec_roIs.F_lim _ | refine Lim.ite ?_ ?_ | refine Lim.bind ?_ (fun _ => ?_))))

end Go.Proofs.Ytaohgllnoomaeaa.Fn
namespace Go.Proofs.Ytaohgllnoomaeaa.Fn
open Go.RowKit Go.Proofs.YtaohgllnoomaeaaW.PrintWords Go.Proofs.YtaohgllnoomaeaaW.PrintLast Go.Proofs.YtaohgllnoomaeaaW.PrintMore
attribute [local go_sem] max2_int min2_int max_two min_two max_three min_three max_four min_four   -- for this text's walks alone
set_option linter.unusedVariables false
set_option linter.unusedSimpArgs false

/-! ### spec_HoleOf: function 120 -/
def spec_HoleOf.f (k : Nat) (l0 : List Int) : Option (Int × Bool) := (spec_roIs.f k l0).bind fun t1227 => (if t1227 = true then ((spec_hoExtended.f k l0).bind fun t1228 => (if t1228 = true then ((spec_hoHole.f k l0).bind fun t1229 => (some (t1229, true))) else (some (0, false)))) else (some (0, false)))
theorem spec_HoleOf.mono : ∀ a0 k, LeO (spec_HoleOf.f k a0) (spec_HoleOf.f (k + 1) a0) := by
 intro a0 k
 unfold spec_HoleOf.f
 repeat' (first | (with_reducible first | exact spec_hoExtended.mono _ _ | exact spec_hoHole.mono _ _ | exact spec_roIs.mono _ _ | exact LeO.refl _ | exact LeO.none _ | refine LeO.ite ?_ ?_ | refine LeO.bind ?_ (fun _ => ?_)) | exact spec_hoExtended.mono _ _ | exact spec_hoHole.mono _ _ | exact spec_roIs.mono _ _ | exact LeO.none _ | refine LeO.ite ?_ ?_ | refine LeO.bind ?_ (fun _ => ?_))
set_option maxHeartbeats 8000000 in
set_option maxRecDepth 100000 in
theorem spec_HoleOf.calls (k : Nat) (A0 : Option Addr) (c0 : Nat) (l0 : List Int) (r1 : Int) (r2 : Bool) (w : World) (hr0 : Kd.C (Kd.int .i64) w A0 l0.length l0) (hc0 : l0.length ≤ c0) (h : spec_HoleOf.f k l0 = some (r1, r2)) :
  Calls Try.prog 120 #[.slice A0 l0.length c0] w fun e w' => e = .returned (.tuple #[.int .i64 r1, .bool r2]) ∧ Below w.heap.size w w' := by
 have HR0 := Aside0.mk hr0
 have HC0 := Aside0.mk hc0
 clear hr0 hc0
 have HB := Aside0.mk (Below.refl w.heap.size w)
 have H := h
 unfold spec_HoleOf.f at H
 clear h
 replace H := Option.bind_eq_some_iff.mp H
 obtain ⟨t1227, A20, H⟩ := H
 replace H : (if t1227 = true then ((spec_hoExtended.f k l0).bind fun t1228 => (if t1228 = true then ((spec_hoHole.f k l0).bind fun t1229 => (some (t1229, true))) else (some (0, false)))) else (some (0, false))) = some (r1, r2) := H
 have A2 := Aside0.mk A20
 clear A20
 by_cases c3 : t1227 = true
 ·subst c3
  have H1 : ((spec_hoExtended.f k l0).bind fun t1228 => (if t1228 = true then ((spec_hoHole.f k l0).bind fun t1229 => (some (t1229, true))) else (some (0, false)))) = some (r1, r2) := by rw [if_pos rfl] at H; exact H
  clear H
  have H := H1
  clear H1
  replace H := Option.bind_eq_some_iff.mp H
  obtain ⟨t1228, A40, H⟩ := H
  replace H : (if t1228 = true then ((spec_hoHole.f k l0).bind fun t1229 => (some (t1229, true))) else (some (0, false))) = some (r1, r2) := H
  have A4 := Aside0.mk A40
  clear A40
  by_cases c5 : t1228 = true
  ·subst c5
   have H1 : ((spec_hoHole.f k l0).bind fun t1229 => (some (t1229, true))) = some (r1, r2) := by rw [if_pos rfl] at H; exact H
   clear H
   have H := H1
   clear H1
   replace H := Option.bind_eq_some_iff.mp H
   obtain ⟨t1229, A60, H⟩ := H
   replace H : (some (t1229, true)) = some (r1, r2) := H
   have A6 := Aside0.mk A60
   clear A60
   simp only [Option.some.injEq, Prod.mk.injEq] at H
   obtain ⟨rfl, rfl⟩ := H
   go_enter Try.func120, Try.ntmps120
   go_wp2_with (first | ((with_reducible refine gate_callee (f := 177) rfl ?_); refine goesA (some 5) Try.func177 #[.slice A0 l0.length c0] ?_; (with_reducible refine (spec_roIs.calls k _ _ l0 true _ ?side1 ?side2 A2.out).mono ?_); (case side1 => repeat (first | exact HR0.out | (with_reducible refine Kd.C_alloc ?_ _) | (with_reducible refine Kd.C_drewN ?_ _) | (with_reducible refine Kd.C_drew ?_))); (case side2 => exact HC0.out); rintro e w7 ⟨rfl, hb⟩; refine ⟨_, rfl, ?_⟩; replace HB := upB HB hb; (try clear hb); (try clear hb2); (try clear hk); (try clear hi)) | (go_at_call 225; (with_reducible refine (spec_hoExtended.calls k _ _ l0 true _ ?side1 ?side2 A4.out).mono ?_); (case side1 => repeat (first | exact (Kd.C_below HR0.out HB.out) | (with_reducible refine Kd.C_alloc ?_ _) | (with_reducible refine Kd.C_drewN ?_ _) | (with_reducible refine Kd.C_drew ?_))); (case side2 => exact HC0.out); rintro e w8 ⟨rfl, hb⟩; replace HB := upB HB hb; (try clear hb); (try clear hb2); (try clear hk); (try clear hi)) | ((with_reducible refine gate_callee (f := 226) rfl ?_); refine goesA (some 13) Try.func226 #[.slice A0 l0.length c0] ?_; (with_reducible refine (spec_hoHole.calls k _ _ l0 t1229 _ ?side1 ?side2 A6.out).mono ?_); (case side1 => repeat (first | exact (Kd.C_below HR0.out HB.out) | (with_reducible refine Kd.C_alloc ?_ _) | (with_reducible refine Kd.C_drewN ?_ _) | (with_reducible refine Kd.C_drew ?_))); (case side2 => exact HC0.out); rintro e w' ⟨rfl, ⟨nd, rfl⟩⟩; refine ⟨_, rfl, ?_⟩))
   go_ret2
   exact ⟨eqr, atB HB⟩
  ·replace c5 := Bool.eq_false_iff.mpr c5
   subst c5
   have H1 : (some (0, false)) = some (r1, r2) := by rw [if_neg (show ¬ (false = true) by decide)] at H; exact H
   clear H
   have H := H1
   clear H1
   simp only [Option.some.injEq, Prod.mk.injEq] at H
   obtain ⟨rfl, rfl⟩ := H
   go_enter Try.func120, Try.ntmps120
   go_wp2_with (first | ((with_reducible refine gate_callee (f := 177) rfl ?_); refine goesA (some 5) Try.func177 #[.slice A0 l0.length c0] ?_; (with_reducible refine (spec_roIs.calls k _ _ l0 true _ ?side1 ?side2 A2.out).mono ?_); (case side1 => repeat (first | exact HR0.out | (with_reducible refine Kd.C_alloc ?_ _) | (with_reducible refine Kd.C_drewN ?_ _) | (with_reducible refine Kd.C_drew ?_))); (case side2 => exact HC0.out); rintro e w9 ⟨rfl, hb⟩; refine ⟨_, rfl, ?_⟩; replace HB := upB HB hb; (try clear hb); (try clear hb2); (try clear hk); (try clear hi)) | (go_at_call 225; (with_reducible refine (spec_hoExtended.calls k _ _ l0 false _ ?side1 ?side2 A4.out).mono ?_); (case side1 => repeat (first | exact (Kd.C_below HR0.out HB.out) | (with_reducible refine Kd.C_alloc ?_ _) | (with_reducible refine Kd.C_drewN ?_ _) | (with_reducible refine Kd.C_drew ?_))); (case side2 => exact HC0.out); rintro e w10 ⟨rfl, hb⟩; replace HB := upB HB hb; (try clear hb); (try clear hb2); (try clear hk); (try clear hi)))
   go_ret2
   exact ⟨eqr, atB HB⟩
 ·replace c3 := Bool.eq_false_iff.mpr c3
  subst c3
  have H1 : (some (0, false)) = some (r1, r2) := by rw [if_neg (show ¬ (false = true) by decide)] at H; exact H
  clear H
  have H := H1
  clear H1
  simp only [Option.some.injEq, Prod.mk.injEq] at H
  obtain ⟨rfl, rfl⟩ := H
  go_enter Try.func120, Try.ntmps120
  go_wp2_with (first | ((with_reducible refine gate_callee (f := 177) rfl ?_); refine goesA (some 5) Try.func177 #[.slice A0 l0.length c0] ?_; (with_reducible refine (spec_roIs.calls k _ _ l0 false _ ?side1 ?side2 A2.out).mono ?_); (case side1 => repeat (first | exact HR0.out | (with_reducible refine Kd.C_alloc ?_ _) | (with_reducible refine Kd.C_drewN ?_ _) | (with_reducible refine Kd.C_drew ?_))); (case side2 => exact HC0.out); rintro e w11 ⟨rfl, hb⟩; refine ⟨_, rfl, ?_⟩; replace HB := upB HB hb; (try clear hb); (try clear hb2); (try clear hk); (try clear hi)))
  go_ret2
  exact ⟨eqr, atB HB⟩

noncomputable def spec_HoleOf.F (l0 : List Int) : Option (Int × Bool) := lim fun k => spec_HoleOf.f k l0
theorem spec_HoleOf.F_lim (l0 : List Int) : Lim (fun k => spec_HoleOf.f k l0) (spec_HoleOf.F l0) := Lim.of fun k => spec_HoleOf.mono l0 k
theorem spec_HoleOf.F_eq (l0 : List Int) : spec_HoleOf.F l0 = ((spec_roIs.F l0).bind fun t1227 => (if t1227 = true then ((spec_hoExtended.F l0).bind fun t1228 => (if t1228 = true then ((spec_hoHole.F l0).bind fun t1229 => (some (t1229, true))) else (some (0, false)))) else (some (0, false)))) :=
 Lim.unique (spec_HoleOf.F_lim l0) (by
  unfold spec_HoleOf.f
  repeat' (first | (with_reducible first | exact Lim.const _ | exact spec_hoExtended.F_lim _ | exact spec_hoHole.F_lim _ | exact spec_roIs.F_lim _ | refine Lim.ite ?_ ?_ | refine Lim.bind ?_ (fun _ => ?_))))

end Go.Proofs.Ytaohgllnoomaeaa.Fn
namespace Go.Proofs.Ytaohgllnoomaeaa.Fn
open Go.RowKit Go.Proofs.YtaohgllnoomaeaaW.PrintWords Go.Proofs.YtaohgllnoomaeaaW.PrintLast Go.Proofs.YtaohgllnoomaeaaW.PrintMore
attribute [local go_sem] max2_int min2_int max_two min_two max_three min_three max_four min_four   -- for this text's walks alone
set_option linter.unusedVariables false
set_option linter.unusedSimpArgs false

/-! ### spec_l1Cur_many: function 169 -/
def spec_l1Cur_many.f (s0_0 : List Int) (s0_1 : Int) (s0_2 : Int) : Option (Int × Int × Int) := (spec_l1Cur_one.f s0_0 s0_1 s0_2 10).bind fun bt294 => (if bt294.1 = true then ((spec_l1Cur_among.f s0_0 bt294.2.1 bt294.2.2 (([(-1), 0, 20, 21, 4611686018427387904] : List Int))).bind fun bt300 => (some (bt300.1, bt300.2.1, bt300.2.2))) else ((spec_l1Cur_pick.f s0_0 bt294.2.1 bt294.2.2 20).bind fun bt303 => (some (wrap64 (1 + bt303.1), bt303.2.1, bt303.2.2))))
set_option maxHeartbeats 8000000 in
set_option maxRecDepth 100000 in
theorem spec_l1Cur_many.calls (g : Nat) (s0_0 : List Int) (s0_1 : Int) (s0_2 : Int) (r1 : Int) (r2 : Int) (r3 : Int) (w0 w : World) (hI : IsS108 w0 w g s0_0 s0_1 s0_2) (hB : Below w0.heap.size w0 w) (h : spec_l1Cur_many.f s0_0 s0_1 s0_2 = some (r1, r2, r3)) :
  Calls Try.prog 169 #[.pointer (some ⟨g, 0, none⟩)] w fun e w' => e = .returned (.int .i64 r1) ∧ IsS108 w0 w' g s0_0 r2 r3 ∧ Below w0.heap.size w0 w' ∧ KeepBut w w' g none := by
 have HI0 := Aside0.mk hI
 have HK := Aside0.mk (KeepBut.refl w g none)
 have HL := Aside0.mk hB.size
 clear hI
 have HW0 := Aside0.mk hB.size
 have HB := Aside0.mk hB
 clear hB
 have H := h
 unfold spec_l1Cur_many.f at H
 clear h
 replace H := Option.bind_eq_some_iff.mp H
 obtain ⟨⟨t294, t295, t296⟩, A20, H⟩ := H
 replace H : (if t294 = true then ((spec_l1Cur_among.f s0_0 t295 t296 (([(-1), 0, 20, 21, 4611686018427387904] : List Int))).bind fun bt300 => (some (bt300.1, bt300.2.1, bt300.2.2))) else ((spec_l1Cur_pick.f s0_0 t295 t296 20).bind fun bt303 => (some (wrap64 (1 + bt303.1), bt303.2.1, bt303.2.2)))) = some (r1, r2, r3) := H
 have A2 := Aside0.mk A20
 clear A20
 by_cases c3 : t294 = true
 ·subst c3
  have H1 : ((spec_l1Cur_among.f s0_0 t295 t296 (([(-1), 0, 20, 21, 4611686018427387904] : List Int))).bind fun bt300 => (some (bt300.1, bt300.2.1, bt300.2.2))) = some (r1, r2, r3) := by rw [if_pos rfl] at H; exact H
  clear H
  have H := H1
  clear H1
  obtain ⟨y297, hy297⟩ : ∃ y_ : List Int, y_ = (([(-1), 0, 20, 21, 4611686018427387904] : List Int)) := ⟨_, rfl⟩
  replace H : ((spec_l1Cur_among.f s0_0 t295 t296 y297).bind fun bt300 => (some (bt300.1, bt300.2.1, bt300.2.2))) = some (r1, r2, r3) := by first | (rw [hy297]; with_reducible exact H) | (have H2_ := (Option.bind_some _ _).symm.trans H; rw [hy297]; with_reducible exact H2_) | (have H2_ := (Option.bind_some _ _).symm.trans H; with_reducible exact H2_) | with_reducible exact H | (rw [hy297]; exact H) | exact H
  have Ny297 := Aside0.mk hy297
  clear hy297
  replace H := Option.bind_eq_some_iff.mp H
  obtain ⟨⟨t300, t301, t302⟩, A40, H⟩ := H
  replace H : (some (t300, t301, t302)) = some (r1, r2, r3) := H
  have A4 := Aside0.mk A40
  clear A40
  simp only [Option.some.injEq, Prod.mk.injEq] at H
  obtain ⟨rfl, rfl, rfl⟩ := H
  go_enter Try.func169, Try.ntmps169
  go_wp2_with (first | ((with_reducible refine gate_callee (f := 170) rfl ?_); refine goesA (some 4) Try.func170 #[.pointer (some ⟨g, 0, none⟩), .int .i64 10] ?_; (with_reducible refine (spec_l1Cur_one.calls g s0_0 s0_1 s0_2 10 true t295 t296 w0 _ ?side1 ?side2 A2.out).mono ?_); (case side1 => exact IsS108.at HI0); (case side2 => exact atB HB); rintro e w5 ⟨rfl, hi, hb, hk⟩; refine ⟨_, rfl, ?_⟩; replace HK := upK HK hk; replace HB := Aside0.mk (hb); replace HI0 := Aside0.mk (hi); (try clear hb); (try clear hb2); (try clear hk); (try clear hi)) | ((with_reducible refine gate_dst (N := 6) rfl ?_); refine Kd.R_lit (Kd.int .i64) _ 3 ?hg (N := 6) ?hd (xs := ([(-1), 0, 20, 21, 4611686018427387904] : List Int)) (inner := [.int .i64 (-1), .int .i64 0, .int .i64 20, .int .i64 21, .int .i64 4611686018427387904]) (ok := fun _ => True) (okp := fun _ => True) ?hr ?hp (fun _ hk => hk) trivial (Below.refl _ _) (Nat.le_refl _) (by simp) ?_; (case hd => rfl); (case hg => rfl); (case hr => first | (go_simp; done) | (go_simp; rfl)); (case hp => exact repsI _); intro v298 w6 ho7 hb hg_ hnew_; clear hg_ hnew_; (first | rw [← Ny297.out] at ho7 | (simp only [Int.reduceToNat] at ho7; rw [← Ny297.out] at ho7)); have HO299 := lowKR ho7 HK; replace HI0 := IsS108.up HI0 hb; replace HK := upKB HK hb; replace HB := upB HB hb; clear hb ho7; obtain ⟨Ao8, co8, eo8⟩ := Kd.R_slice HO299.out; subst eo8) | ((with_reducible refine gate_callee (f := 191) rfl ?_); refine goesA (some 7) Try.func191 #[.pointer (some ⟨g, 0, none⟩), .slice Ao8 y297.length co8] ?_; (with_reducible refine (spec_l1Cur_among.calls g s0_0 t295 t296 _ _ y297 t300 t301 t302 w0 _ ?side1 ?side2 ?side3 ?side4 ?side5 A4.out).mono ?_); (case side1 => exact IsS108.at HI0); (case side2 => exact atB HB); (case side3 => exact atRC HO299); (case side4 => exact (Kd.R_reads' HO299.out).2.1); (case side5 => exact far_slice (IsS108.own_ne HI0.out HO299.out (by decide))); rintro e w9 ⟨rfl, hi, hb, hk⟩; refine ⟨_, rfl, ?_⟩; replace HO299 := IsS108.keepR HI0 HO299 hk; replace HK := upK HK hk; replace HB := Aside0.mk (hb); replace HI0 := Aside0.mk (hi); (try clear hb); (try clear hb2); (try clear hk); (try clear hi)))
  go_ret
  exact ⟨eqr, IsS108.at HI0, atB HB, atK HK⟩
 ·replace c3 := Bool.eq_false_iff.mpr c3
  subst c3
  have H1 : ((spec_l1Cur_pick.f s0_0 t295 t296 20).bind fun bt303 => (some (wrap64 (1 + bt303.1), bt303.2.1, bt303.2.2))) = some (r1, r2, r3) := by rw [if_neg (show ¬ (false = true) by decide)] at H; exact H
  clear H
  have H := H1
  clear H1
  replace H := Option.bind_eq_some_iff.mp H
  obtain ⟨⟨t303, t304, t305⟩, A100, H⟩ := H
  replace H : (some (wrap64 (1 + t303), t304, t305)) = some (r1, r2, r3) := H
  have A10 := Aside0.mk A100
  clear A100
  simp only [Option.some.injEq, Prod.mk.injEq] at H
  obtain ⟨rfl, rfl, rfl⟩ := H
  go_enter Try.func169, Try.ntmps169
  go_wp2_with (first | ((with_reducible refine gate_callee (f := 170) rfl ?_); refine goesA (some 4) Try.func170 #[.pointer (some ⟨g, 0, none⟩), .int .i64 10] ?_; (with_reducible refine (spec_l1Cur_one.calls g s0_0 s0_1 s0_2 10 false t295 t296 w0 _ ?side1 ?side2 A2.out).mono ?_); (case side1 => exact IsS108.at HI0); (case side2 => exact atB HB); rintro e w11 ⟨rfl, hi, hb, hk⟩; refine ⟨_, rfl, ?_⟩; replace HK := upK HK hk; replace HB := Aside0.mk (hb); replace HI0 := Aside0.mk (hi); (try clear hb); (try clear hb2); (try clear hk); (try clear hi)) | ((with_reducible refine gate_callee (f := 171) rfl ?_); refine goesA (some 9) Try.func171 #[.pointer (some ⟨g, 0, none⟩), .int .i64 20] ?_; (with_reducible refine (spec_l1Cur_pick.calls g s0_0 t295 t296 20 t303 t304 t305 w0 _ ?side1 ?side2 A10.out).mono ?_); (case side1 => exact IsS108.at HI0); (case side2 => exact atB HB); rintro e w12 ⟨rfl, hi, hb, hk⟩; refine ⟨_, rfl, ?_⟩; replace HK := upK HK hk; replace HB := Aside0.mk (hb); replace HI0 := Aside0.mk (hi); (try clear hb); (try clear hb2); (try clear hk); (try clear hi)))
  go_ret
  exact ⟨eqr, IsS108.at HI0, atB HB, atK HK⟩


end Go.Proofs.Ytaohgllnoomaeaa.Fn
namespace Go.Proofs.Ytaohgllnoomaeaa.Fn
open Go.RowKit Go.Proofs.YtaohgllnoomaeaaW.PrintWords Go.Proofs.YtaohgllnoomaeaaW.PrintLast Go.Proofs.YtaohgllnoomaeaaW.PrintMore
attribute [local go_sem] max2_int min2_int max_two min_two max_three min_three max_four min_four   -- for this text's walks alone
set_option linter.unusedVariables false
set_option linter.unusedSimpArgs false

/-! ### spec_l1Most: function 205 -/
def spec_l1Most.f (a0 : Int) (a1 : Int) : Option (Int) := if a0 > a1 then (some a0) else (some a1)
set_option maxHeartbeats 8000000 in
set_option maxRecDepth 100000 in
theorem spec_l1Most.calls (a0 : Int) (a1 : Int) (r : Int) (w : World) (h : spec_l1Most.f a0 a1 = some r) :
  Calls Try.prog 205 #[.int .i64 a0, .int .i64 a1] w fun e w' => e = .returned (.int .i64 r) ∧ Drawn0 w w' := by
 have H := h
 unfold spec_l1Most.f at H
 clear h
 by_cases c3 : a0 > a1
 ·rw [if_pos c3] at H
  have c3b0 : decide (a1 < a0) = true := decide_eq_true c3
  clear c3
  obtain rfl := Option.some.inj H
  go_enter Try.func205, Try.ntmps205
  go_wp2
  go_ret
  exact ⟨by first | rfl | (simp; done) | (simp [*]; done), by repeat (first | exact Drawn0.refl _ | apply Drawn0.step)⟩
 ·rw [if_neg c3] at H
  have c3b0 : decide (a1 < a0) = false := decide_eq_false c3
  clear c3
  obtain rfl := Option.some.inj H
  go_enter Try.func205, Try.ntmps205
  go_wp2
  go_ret
  exact ⟨by first | rfl | (simp; done) | (simp [*]; done), by repeat (first | exact Drawn0.refl _ | apply Drawn0.step)⟩


end Go.Proofs.Ytaohgllnoomaeaa.Fn
namespace Go.Proofs.Ytaohgllnoomaeaa.Fn
open Go.RowKit Go.Proofs.YtaohgllnoomaeaaW.PrintWords Go.Proofs.YtaohgllnoomaeaaW.PrintLast Go.Proofs.YtaohgllnoomaeaaW.PrintMore
attribute [local go_sem] max2_int min2_int max_two min_two max_three min_three max_four min_four   -- for this text's walks alone
set_option linter.unusedVariables false
set_option linter.unusedSimpArgs false

/-! ### spec_DrawIsExtendedThere: function 121 -/
def spec_DrawIsExtendedThere.f (l0 : List Int) : Option (Int × Int) := (spec_l1Cur_many.f l0 0 0).bind fun bt1231 => ((spec_l1Most.f 1 bt1231.1).bind fun t1234 => ((spec_l1Least.f 30 t1234).bind fun t1235 => ((spec_l1Cur_pick.f l0 bt1231.2.1 bt1231.2.2 (wrap64 ((wrap64 (2 * t1235)) + 2))).bind fun bt1236 => ((spec_l1Cur_pick.f l0 bt1236.2.1 bt1236.2.2 9).bind fun bt1239 => (some (bt1231.1, wrap64 (bt1236.1 - (wrap64 (Int.tdiv bt1239.1 8)))))))))
set_option maxHeartbeats 8000000 in
set_option maxRecDepth 100000 in
theorem spec_DrawIsExtendedThere.calls (A0 : Option Addr) (c0 : Nat) (l0 : List Int) (r1 : Int) (r2 : Int) (w : World) (hr0 : Kd.C (Kd.int .u8) w A0 l0.length l0) (hc0 : l0.length ≤ c0) (h : spec_DrawIsExtendedThere.f l0 = some (r1, r2)) :
  Calls Try.prog 121 #[.slice A0 l0.length c0] w fun e w' => e = .returned (.tuple #[.int .i64 r1, .int .i64 r2]) ∧ Below w.heap.size w w' := by
 have hu108 := Try.underlying108
 have HR0 := Aside0.mk hr0
 have HC0 := Aside0.mk hc0
 clear hr0 hc0
 have HB := Aside0.mk (Below.refl w.heap.size w)
 have H := h
 unfold spec_DrawIsExtendedThere.f at H
 clear h
 replace H := Option.bind_eq_some_iff.mp H
 obtain ⟨⟨t1231, t1232, t1233⟩, A20, H⟩ := H
 replace H : ((spec_l1Most.f 1 t1231).bind fun t1234 => ((spec_l1Least.f 30 t1234).bind fun t1235 => ((spec_l1Cur_pick.f l0 t1232 t1233 (wrap64 ((wrap64 (2 * t1235)) + 2))).bind fun bt1236 => ((spec_l1Cur_pick.f l0 bt1236.2.1 bt1236.2.2 9).bind fun bt1239 => (some (t1231, wrap64 (bt1236.1 - (wrap64 (Int.tdiv bt1239.1 8))))))))) = some (r1, r2) := H
 have A2 := Aside0.mk A20
 clear A20
 replace H := Option.bind_eq_some_iff.mp H
 obtain ⟨t1234, A30, H⟩ := H
 replace H : ((spec_l1Least.f 30 t1234).bind fun t1235 => ((spec_l1Cur_pick.f l0 t1232 t1233 (wrap64 ((wrap64 (2 * t1235)) + 2))).bind fun bt1236 => ((spec_l1Cur_pick.f l0 bt1236.2.1 bt1236.2.2 9).bind fun bt1239 => (some (t1231, wrap64 (bt1236.1 - (wrap64 (Int.tdiv bt1239.1 8)))))))) = some (r1, r2) := H
 have A3 := Aside0.mk A30
 clear A30
 replace H := Option.bind_eq_some_iff.mp H
 obtain ⟨t1235, A40, H⟩ := H
 replace H : ((spec_l1Cur_pick.f l0 t1232 t1233 (wrap64 ((wrap64 (2 * t1235)) + 2))).bind fun bt1236 => ((spec_l1Cur_pick.f l0 bt1236.2.1 bt1236.2.2 9).bind fun bt1239 => (some (t1231, wrap64 (bt1236.1 - (wrap64 (Int.tdiv bt1239.1 8))))))) = some (r1, r2) := H
 have A4 := Aside0.mk A40
 clear A40
 replace H := Option.bind_eq_some_iff.mp H
 obtain ⟨⟨t1236, t1237, t1238⟩, A50, H⟩ := H
 replace H : ((spec_l1Cur_pick.f l0 t1237 t1238 9).bind fun bt1239 => (some (t1231, wrap64 (t1236 - (wrap64 (Int.tdiv bt1239.1 8)))))) = some (r1, r2) := H
 have A5 := Aside0.mk A50
 clear A50
 replace H := Option.bind_eq_some_iff.mp H
 obtain ⟨⟨t1239, t1240, t1241⟩, A60, H⟩ := H
 replace H : (some (t1231, wrap64 (t1236 - (wrap64 (Int.tdiv t1239 8))))) = some (r1, r2) := H
 have A6 := Aside0.mk A60
 clear A60
 simp only [Option.some.injEq, Prod.mk.injEq] at H
 obtain ⟨rfl, rfl⟩ := H
 go_enter Try.func121, Try.ntmps121
 go_wp2_with (first | ((with_reducible refine gate_dst (N := 8) rfl ?_); refine box_event ?hg (N := 8) ?hd (cs := #[.slice A0 l0.length c0, .int .i64 0, .int .u64 0]) (t := 108) ?hr ?_; (case hd => rfl); (case hg => rfl); (case hr => first | (go_simp; done) | (go_simp; rfl)); intro gb1230 hg w7 hbox hb; have HI1230 := Aside0.mk ((⟨_, _, hbox, (by rw [hg]; exact (szB HB) : w.heap.size ≤ gb1230), HR0.out⟩ : IsS108 w w7 gb1230 l0 0 0)); replace HB := upB HB hb; clear hb hbox hg) | ((with_reducible refine gate_callee (f := 169) rfl ?_); refine goesA (some 10) Try.func169 #[.pointer (some ⟨gb1230, 0, none⟩)] ?_; (with_reducible refine (spec_l1Cur_many.calls gb1230 l0 0 0 t1231 t1232 t1233 w _ ?side1 ?side2 A2.out).mono ?_); (case side1 => exact IsS108.at HI1230); (case side2 => exact atB HB); rintro e w8 ⟨rfl, hi, hb, hk⟩; refine ⟨_, rfl, ?_⟩; replace HB := Aside0.mk (hb); replace HI1230 := Aside0.mk (hi); (try clear hb); (try clear hb2); (try clear hk); (try clear hi)) | ((with_reducible refine gate_callee (f := 205) rfl ?_); refine goesA (some 14) Try.func205 #[.int .i64 1, .int .i64 t1231] ?_; (with_reducible refine (spec_l1Most.calls 1 t1231 t1234 _ A3.out).mono ?_); rintro e w' ⟨rfl, ⟨nd, rfl⟩⟩; refine ⟨_, rfl, ?_⟩) | ((with_reducible refine gate_callee (f := 227) rfl ?_); refine goesA (some 15) Try.func227 #[.int .i64 30, .int .i64 t1234] ?_; (with_reducible refine (spec_l1Least.calls 30 t1234 t1235 _ A4.out).mono ?_); rintro e w' ⟨rfl, ⟨nd, rfl⟩⟩; refine ⟨_, rfl, ?_⟩) | ((with_reducible refine gate_callee (f := 171) rfl ?_); refine goesA (some 18) Try.func171 #[.pointer (some ⟨gb1230, 0, none⟩), .int .i64 (wrap64 ((wrap64 (2 * t1235)) + 2))] ?_; (with_reducible refine (spec_l1Cur_pick.calls gb1230 l0 t1232 t1233 (wrap64 ((wrap64 (2 * t1235)) + 2)) t1236 t1237 t1238 w _ ?side1 ?side2 A5.out).mono ?_); (case side1 => exact IsS108.at HI1230); (case side2 => exact atB HB); rintro e w9 ⟨rfl, hi, hb, hk⟩; refine ⟨_, rfl, ?_⟩; replace HB := Aside0.mk (hb); replace HI1230 := Aside0.mk (hi); (try clear hb); (try clear hb2); (try clear hk); (try clear hi)) | ((with_reducible refine gate_callee (f := 171) rfl ?_); refine goesA (some 20) Try.func171 #[.pointer (some ⟨gb1230, 0, none⟩), .int .i64 9] ?_; (with_reducible refine (spec_l1Cur_pick.calls gb1230 l0 t1237 t1238 9 t1239 t1240 t1241 w _ ?side1 ?side2 A6.out).mono ?_); (case side1 => exact IsS108.at HI1230); (case side2 => exact atB HB); rintro e w10 ⟨rfl, hi, hb, hk⟩; refine ⟨_, rfl, ?_⟩; replace HB := Aside0.mk (hb); replace HI1230 := Aside0.mk (hi); (try clear hb); (try clear hb2); (try clear hk); (try clear hi)))
 go_ret2
 exact ⟨eqr, atB HB⟩


end Go.Proofs.Ytaohgllnoomaeaa.Fn
namespace Go.Proofs.Ytaohgllnoomaeaa.Fn
open Go.RowKit Go.Proofs.YtaohgllnoomaeaaW.PrintWords Go.Proofs.YtaohgllnoomaeaaW.PrintLast Go.Proofs.YtaohgllnoomaeaaW.PrintMore
attribute [local go_sem] max2_int min2_int max_two min_two max_three min_three max_four min_four   -- for this text's walks alone
set_option linter.unusedVariables false
set_option linter.unusedSimpArgs false

/-! ### spec_IsExtendedThere: function 122 -/
def spec_IsExtendedThere.f (a0 : Int) (a1 : Int) : Option (Bool × Bool) := (spec_hoAsked.f a0 20 a1).bind fun t1242 => (if t1242 = true then (some ((((Int.tmod a1 2) == 0) == (decide ((Int.tmod a0 4) ≤ 1))), true)) else (some (false, false)))
set_option maxHeartbeats 8000000 in
set_option maxRecDepth 100000 in
theorem spec_IsExtendedThere.calls (a0 : Int) (a1 : Int) (r1 : Bool) (r2 : Bool) (w : World) (h : spec_IsExtendedThere.f a0 a1 = some (r1, r2)) :
  Calls Try.prog 122 #[.int .i64 a0, .int .i64 a1] w fun e w' => e = .returned (.tuple #[.bool r1, .bool r2]) ∧ Drawn0 w w' := by
 have H := h
 unfold spec_IsExtendedThere.f at H
 clear h
 replace H := Option.bind_eq_some_iff.mp H
 obtain ⟨t1242, A30, H⟩ := H
 replace H : (if t1242 = true then (some ((((Int.tmod a1 2) == 0) == (decide ((Int.tmod a0 4) ≤ 1))), true)) else (some (false, false))) = some (r1, r2) := H
 have A3 := Aside0.mk A30
 clear A30
 by_cases c4 : t1242 = true
 ·subst c4
  have H1 : (some ((((Int.tmod a1 2) == 0) == (decide ((Int.tmod a0 4) ≤ 1))), true)) = some (r1, r2) := by rw [if_pos rfl] at H; exact H
  clear H
  have H := H1
  clear H1
  simp only [Option.some.injEq, Prod.mk.injEq] at H
  obtain ⟨rfl, rfl⟩ := H
  go_enter Try.func122, Try.ntmps122
  go_wp2_with (first | ((with_reducible refine gate_callee (f := 220) rfl ?_); refine goesA (some 8) Try.func220 #[.int .i64 a0, .int .i64 20, .int .i64 a1] ?_; (with_reducible refine (spec_hoAsked.calls a0 20 a1 true _ A3.out).mono ?_); rintro e w' ⟨rfl, ⟨nd, rfl⟩⟩; refine ⟨_, rfl, ?_⟩))
  go_ret2
  exact ⟨by first | rfl | (simp; done) | (simp [*]; done), by repeat (first | exact Drawn0.refl _ | apply Drawn0.step)⟩
 ·replace c4 := Bool.eq_false_iff.mpr c4
  subst c4
  have H1 : (some (false, false)) = some (r1, r2) := by rw [if_neg (show ¬ (false = true) by decide)] at H; exact H
  clear H
  have H := H1
  clear H1
  simp only [Option.some.injEq, Prod.mk.injEq] at H
  obtain ⟨rfl, rfl⟩ := H
  go_enter Try.func122, Try.ntmps122
  go_wp2_with (first | ((with_reducible refine gate_callee (f := 220) rfl ?_); refine goesA (some 8) Try.func220 #[.int .i64 a0, .int .i64 20, .int .i64 a1] ?_; (with_reducible refine (spec_hoAsked.calls a0 20 a1 false _ A3.out).mono ?_); rintro e w' ⟨rfl, ⟨nd, rfl⟩⟩; refine ⟨_, rfl, ?_⟩))
  go_ret2
  exact ⟨by first | rfl | (simp; done) | (simp [*]; done), by repeat (first | exact Drawn0.refl _ | apply Drawn0.step)⟩


end Go.Proofs.Ytaohgllnoomaeaa.Fn
namespace Go.Proofs.Ytaohgllnoomaeaa.Fn
open Go.RowKit Go.Proofs.YtaohgllnoomaeaaW.PrintWords Go.Proofs.YtaohgllnoomaeaaW.PrintLast Go.Proofs.YtaohgllnoomaeaaW.PrintMore
attribute [local go_sem] max2_int min2_int max_two min_two max_three min_three max_four min_four   -- for this text's walks alone
set_option linter.unusedVariables false
set_option linter.unusedSimpArgs false

/-! ### laws_jSame: function 20 -/
def laws_jSame.l0 : Nat → List Int → List Int → Int → Int → Option (Bool)
 | 0, _, _, _, _ => none
 | k + 1, x0, x1, x12, x13 => if x13 < x12 then (if 0 ≤ x13 then (if x13 < (x0.length : Int) then (if x13 < (x1.length : Int) then (if (rd x0 x13) = (rd x1 x13) then (laws_jSame.l0 k x0 x1 x12 (wrap64 (x13 + 1))) else (some false)) else (none)) else (none)) else (none)) else (some true)
def laws_jSame.f (k : Nat) (l0 : List Int) (l1 : List Int) : Option (Bool) := if (l0.length : Int) = (l1.length : Int) then (laws_jSame.l0 k l0 l1 (l0.length : Int) 0) else (some false)
theorem laws_jSame.mono_l : ∀ k, (∀ y0 y1 y2 y3, LeO (laws_jSame.l0 k y0 y1 y2 y3) (laws_jSame.l0 (k + 1) y0 y1 y2 y3))
 | 0 => fun _ _ _ _ r h => by simp [laws_jSame.l0] at h
 | k + 1 => by
  have ih0 := laws_jSame.mono_l k
  ·intro y0 y1 y2 y3
   unfold laws_jSame.l0
   repeat' (first | (with_reducible first | exact ih0 _ _ _ _ | exact LeO.refl _ | exact LeO.none _ | refine LeO.ite ?_ ?_ | refine LeO.bind ?_ (fun _ => ?_)) | exact ih0 _ _ _ _ | exact LeO.none _ | refine LeO.ite ?_ ?_ | refine LeO.bind ?_ (fun _ => ?_))
theorem laws_jSame.mono : ∀ a0 a1 k, LeO (laws_jSame.f k a0 a1) (laws_jSame.f (k + 1) a0 a1) := by
 intro a0 a1 k
 have ih0 := laws_jSame.mono_l k
 unfold laws_jSame.f
 repeat' (first | (with_reducible first | exact ih0 _ _ _ _ | exact LeO.refl _ | exact LeO.none _ | refine LeO.ite ?_ ?_ | refine LeO.bind ?_ (fun _ => ?_)) | exact ih0 _ _ _ _ | exact LeO.none _ | refine LeO.ite ?_ ?_ | refine LeO.bind ?_ (fun _ => ?_))
set_option maxHeartbeats 8000000 in
set_option maxRecDepth 100000 in
theorem laws_jSame.calls (k : Nat) (A0 : Option Addr) (c0 : Nat) (l0 : List Int) (A1 : Option Addr) (c1 : Nat) (l1 : List Int) (r : Bool) (w : World) (hr0 : Kd.C (Kd.int .i64) w A0 l0.length l0) (hc0 : l0.length ≤ c0) (hr1 : Kd.C (Kd.int .i64) w A1 l1.length l1) (hc1 : l1.length ≤ c1) (h : laws_jSame.f k l0 l1 = some r) :
  Calls Try.prog 20 #[.slice A0 l0.length c0, .slice A1 l1.length c1] w fun e w' => e = .returned (.bool r) ∧ Drawn0 w w' := by
 have HR0 := Aside0.mk hr0
 have HC0 := Aside0.mk hc0
 clear hr0 hc0
 have HR1 := Aside0.mk hr1
 have HC1 := Aside0.mk hc1
 clear hr1 hc1
 have H := h
 unfold laws_jSame.f at H
 clear h
 by_cases c3 : (l0.length : Int) = (l1.length : Int)
 ·rw [if_pos c3] at H
  have c3b0 : ((l0.length : Int) == (l1.length : Int)) = true := beq_iff_eq.mpr c3
  have c3b1 : ((l0.length : Int) != (l1.length : Int)) = false := bne_eq_false_iff_eq.mpr c3
  have c3b2 : (l0.length == l1.length) = true := by first | simpa using c3 | (simp at c3 ⊢; omega)
  clear c3
  have H' := Aside0.mk H
  clear H
  go_enter Try.func20, Try.ntmps20
  go_wp2
  repeat (go_quiet (fail); try go_wp2)
  go_loopg [13] k (fun kq v13 w' => ∃ (x13_1 : Int), v13 = .int .i64 x13_1 ∧ Aside0 (laws_jSame.l0 kq l0 l1 (l0.length : Int) x13_1 = some r) ∧ Aside0 (kq ≤ k) ∧ Drawn0 w w')
  case atStart => exact ⟨(0), eqd, H', ⟨Nat.le_refl _⟩, by repeat (first | exact Drawn0.refl _ | apply Drawn0.step)⟩
  case round =>
   clear H'
   try clear c1
   try clear c2
   try clear p2
   try clear c3
   try clear c3b0
   try clear c3b1
   try clear c3b2
   obtain ⟨x13_1, rfl, HA, HK1, ⟨m1, rfl⟩⟩ := hrel
   cases gk with
   | zero => exact absurd HA.out (by simp [laws_jSame.l0])
   | succ k1 =>
    have H := HA.out
    clear HA
    simp only [laws_jSame.l0] at H
    by_cases c4 : x13_1 < (l0.length : Int)
    ·rw [if_pos c4] at H
     have c4b0 : decide (x13_1 < (l0.length : Int)) = true := decide_eq_true c4
     clear c4
     by_cases c5 : 0 ≤ x13_1
     ·rw [if_pos c5] at H
      have c5b0 : decide (0 ≤ x13_1) = true := decide_eq_true c5
      clear c5
      by_cases c6 : x13_1 < (l0.length : Int)
      ·rw [if_pos c6] at H
       have c6b0 : decide (x13_1 < (l0.length : Int)) = true := decide_eq_true c6
       clear c6
       by_cases c7 : x13_1 < (l1.length : Int)
       ·rw [if_pos c7] at H
        have c7b0 : decide (x13_1 < (l1.length : Int)) = true := decide_eq_true c7
        clear c7
        by_cases c8 : (rd l0 x13_1) = (rd l1 x13_1)
        ·rw [if_pos c8] at H
         have c8b0 : ((rd l0 x13_1) == (rd l1 x13_1)) = true := beq_iff_eq.mpr c8
         have c8b1 : ((rd l0 x13_1) != (rd l1 x13_1)) = false := bne_eq_false_iff_eq.mpr c8
         clear c8
         have H' := Aside0.mk H
         clear H
         have p140 : 0 ≤ (x13_1 : Int) := ofd
         have q140 : x13_1 < (l0.length : Int) := ofd
         obtain ⟨ad140, e140, hx140_0⟩ := Kd.at_int HR0.out x13_1 p140 q140
         cases e140
         replace p140 := eq_true p140
         replace q140 := eq_true q140
         have p141 : 0 ≤ (x13_1 : Int) := ofd
         have q141 : x13_1 < (l1.length : Int) := ofd
         obtain ⟨ad141, e141, hx141_0⟩ := Kd.at_int HR1.out x13_1 p141 q141
         cases e141
         replace p141 := eq_true p141
         replace q141 := eq_true q141
         go_wp2
         repeat (go_quiet (fail); try go_wp2)
         go_roundg k1
         case measure => have := HK1.out; omega
         case rel => exact ⟨(wrap64 (x13_1 + 1)), eqd, H', ⟨by have := HK1.out; omega⟩, by repeat (first | exact Drawn0.refl _ | apply Drawn0.step)⟩
        ·rw [if_neg c8] at H
         have c8b0 : ((rd l0 x13_1) == (rd l1 x13_1)) = false := beq_eq_false_iff_ne.mpr c8
         have c8b1 : ((rd l0 x13_1) != (rd l1 x13_1)) = true := bne_iff_ne.mpr c8
         obtain rfl := Option.some.inj H
         have p140 : 0 ≤ (x13_1 : Int) := ofd
         have q140 : x13_1 < (l0.length : Int) := ofd
         obtain ⟨ad140, e140, hx140_0⟩ := Kd.at_int HR0.out x13_1 p140 q140
         cases e140
         replace p140 := eq_true p140
         replace q140 := eq_true q140
         have p141 : 0 ≤ (x13_1 : Int) := ofd
         have q141 : x13_1 < (l1.length : Int) := ofd
         obtain ⟨ad141, e141, hx141_0⟩ := Kd.at_int HR1.out x13_1 p141 q141
         cases e141
         replace p141 := eq_true p141
         replace q141 := eq_true q141
         go_wp2
         repeat (go_quiet (fail); try go_wp2)
         go_ret
         exact ⟨by first | rfl | (simp; done) | (simp [*]; done), by repeat (first | exact Drawn0.refl _ | apply Drawn0.step)⟩
       ·rw [if_neg c7] at H
        exact absurd H (by simp)
      ·rw [if_neg c6] at H
       exact absurd H (by simp)
     ·rw [if_neg c5] at H
      exact absurd H (by simp)
    ·rw [if_neg c4] at H
     have c4b0 : decide (x13_1 < (l0.length : Int)) = false := decide_eq_false c4
     clear c4
     obtain rfl := Option.some.inj H
     go_wp2
     repeat (go_quiet (fail); try go_wp2)
     go_ret
     exact ⟨by first | rfl | (simp; done) | (simp [*]; done), by repeat (first | exact Drawn0.refl _ | apply Drawn0.step)⟩
 ·rw [if_neg c3] at H
  have c3b0 : ((l0.length : Int) == (l1.length : Int)) = false := beq_eq_false_iff_ne.mpr c3
  have c3b1 : ((l0.length : Int) != (l1.length : Int)) = true := bne_iff_ne.mpr c3
  have c3b2 : (l0.length == l1.length) = false := by first | simpa using c3 | (simp at c3 ⊢; omega)
  obtain rfl := Option.some.inj H
  go_enter Try.func20, Try.ntmps20
  go_wp2
  repeat (go_quiet (fail); try go_wp2)
  go_ret
  exact ⟨by first | rfl | (simp; done) | (simp [*]; done), by repeat (first | exact Drawn0.refl _ | apply Drawn0.step)⟩

noncomputable def laws_jSame.L0 (x0 : List Int) (x1 : List Int) (x12 : Int) (x13 : Int) : Option (Bool) := lim fun k => laws_jSame.l0 k x0 x1 x12 x13
theorem laws_jSame.L0_lim (x0 : List Int) (x1 : List Int) (x12 : Int) (x13 : Int) : Lim (fun k => laws_jSame.l0 k x0 x1 x12 x13) (laws_jSame.L0 x0 x1 x12 x13) := Lim.of fun k => (laws_jSame.mono_l k) x0 x1 x12 x13
noncomputable def laws_jSame.F (l0 : List Int) (l1 : List Int) : Option (Bool) := lim fun k => laws_jSame.f k l0 l1
theorem laws_jSame.F_lim (l0 : List Int) (l1 : List Int) : Lim (fun k => laws_jSame.f k l0 l1) (laws_jSame.F l0 l1) := Lim.of fun k => laws_jSame.mono l0 l1 k
theorem laws_jSame.L0_eq (x0 : List Int) (x1 : List Int) (x12 : Int) (x13 : Int) : laws_jSame.L0 x0 x1 x12 x13 = (if x13 < x12 then (if 0 ≤ x13 then (if x13 < (x0.length : Int) then (if x13 < (x1.length : Int) then (if (rd x0 x13) = (rd x1 x13) then (laws_jSame.L0 x0 x1 x12 (wrap64 (x13 + 1))) else (some false)) else (none)) else (none)) else (none)) else (some true)) :=
 Lim.step (f := fun k => laws_jSame.l0 (k + 1) x0 x1 x12 x13) (laws_jSame.L0_lim x0 x1 x12 x13) (fun _ => rfl) (by
  simp only [laws_jSame.l0]
  repeat' (first | (with_reducible first | exact Lim.const _ | exact laws_jSame.L0_lim _ _ _ _ | refine Lim.ite ?_ ?_ | refine Lim.bind ?_ (fun _ => ?_))))
theorem laws_jSame.F_eq (l0 : List Int) (l1 : List Int) : laws_jSame.F l0 l1 = (if (l0.length : Int) = (l1.length : Int) then (laws_jSame.L0 l0 l1 (l0.length : Int) 0) else (some false)) :=
 Lim.unique (laws_jSame.F_lim l0 l1) (by
  unfold laws_jSame.f
  repeat' (first | (with_reducible first | exact Lim.const _ | exact laws_jSame.L0_lim _ _ _ _ | refine Lim.ite ?_ ?_ | refine Lim.bind ?_ (fun _ => ?_))))

end Go.Proofs.Ytaohgllnoomaeaa.Fn
namespace Go.Proofs.Ytaohgllnoomaeaa.Fn
open Go.RowKit Go.Proofs.YtaohgllnoomaeaaW.PrintWords Go.Proofs.YtaohgllnoomaeaaW.PrintLast Go.Proofs.YtaohgllnoomaeaaW.PrintMore
attribute [local go_sem] max2_int min2_int max_two min_two max_three min_three max_four min_four   -- for this text's walks alone
set_option linter.unusedVariables false
set_option linter.unusedSimpArgs false

/-! ### laws_jRows: function 19 -/
def laws_jRows.l0 : Nat → List (List Int) → List (List Int) → Int → Int → Option (Bool)
 | 0, _, _, _, _ => none
 | k + 1, x0, x1, x12, x13 => if x13 < x12 then (if 0 ≤ x13 then (if x13 < (x0.length : Int) then (if x13 < (x1.length : Int) then ((laws_jSame.f k (rd_L2 x0 x13) (rd_L2 x1 x13)).bind fun t144 => (if t144 = true then (laws_jRows.l0 k x0 x1 x12 (wrap64 (x13 + 1))) else (some false))) else (none)) else (none)) else (none)) else (some true)
def laws_jRows.f (k : Nat) (l0 : List (List Int)) (l1 : List (List Int)) : Option (Bool) := if (l0.length : Int) = (l1.length : Int) then (laws_jRows.l0 k l0 l1 (l0.length : Int) 0) else (some false)
theorem laws_jRows.mono_l : ∀ k, (∀ y0 y1 y2 y3, LeO (laws_jRows.l0 k y0 y1 y2 y3) (laws_jRows.l0 (k + 1) y0 y1 y2 y3))
 | 0 => fun _ _ _ _ r h => by simp [laws_jRows.l0] at h
 | k + 1 => by
  have ih0 := laws_jRows.mono_l k
  ·intro y0 y1 y2 y3
   unfold laws_jRows.l0
   repeat' (first | (with_reducible first | exact ih0 _ _ _ _ | exact laws_jSame.mono _ _ _ | exact LeO.refl _ | exact LeO.none _ | refine LeO.ite ?_ ?_ | refine LeO.bind ?_ (fun _ => ?_)) | exact ih0 _ _ _ _ | exact laws_jSame.mono _ _ _ | exact LeO.none _ | refine LeO.ite ?_ ?_ | refine LeO.bind ?_ (fun _ => ?_))
theorem laws_jRows.mono : ∀ a0 a1 k, LeO (laws_jRows.f k a0 a1) (laws_jRows.f (k + 1) a0 a1) := by
 intro a0 a1 k
 have ih0 := laws_jRows.mono_l k
 unfold laws_jRows.f
 repeat' (first | (with_reducible first | exact ih0 _ _ _ _ | exact LeO.refl _ | exact LeO.none _ | refine LeO.ite ?_ ?_ | refine LeO.bind ?_ (fun _ => ?_)) | exact ih0 _ _ _ _ | exact LeO.none _ | refine LeO.ite ?_ ?_ | refine LeO.bind ?_ (fun _ => ?_))
set_option maxHeartbeats 8000000 in
set_option maxRecDepth 100000 in
theorem laws_jRows.calls (k : Nat) (A0 : Option Addr) (c0 : Nat) (l0 : List (List Int)) (A1 : Option Addr) (c1 : Nat) (l1 : List (List Int)) (r : Bool) (w : World) (hr0 : Kd.C (Kd.slice 3 (Kd.int .i64)) w A0 l0.length l0) (hc0 : l0.length ≤ c0) (hr1 : Kd.C (Kd.slice 3 (Kd.int .i64)) w A1 l1.length l1) (hc1 : l1.length ≤ c1) (h : laws_jRows.f k l0 l1 = some r) :
  Calls Try.prog 19 #[.slice A0 l0.length c0, .slice A1 l1.length c1] w fun e w' => e = .returned (.bool r) ∧ Drawn0 w w' := by
 have HR0 := Aside0.mk hr0
 have HC0 := Aside0.mk hc0
 clear hr0 hc0
 have HR1 := Aside0.mk hr1
 have HC1 := Aside0.mk hc1
 clear hr1 hc1
 have H := h
 unfold laws_jRows.f at H
 clear h
 by_cases c3 : (l0.length : Int) = (l1.length : Int)
 ·rw [if_pos c3] at H
  have c3b0 : ((l0.length : Int) == (l1.length : Int)) = true := beq_iff_eq.mpr c3
  have c3b1 : ((l0.length : Int) != (l1.length : Int)) = false := bne_eq_false_iff_eq.mpr c3
  have c3b2 : (l0.length == l1.length) = true := by first | simpa using c3 | (simp at c3 ⊢; omega)
  clear c3
  have H' := Aside0.mk H
  clear H
  go_enter Try.func19, Try.ntmps19
  go_wp2
  repeat (go_quiet (fail); try go_wp2)
  go_loopg [13] k (fun kq v13 w' => ∃ (x13_1 : Int), v13 = .int .i64 x13_1 ∧ Aside0 (laws_jRows.l0 kq l0 l1 (l0.length : Int) x13_1 = some r) ∧ Aside0 (kq ≤ k) ∧ Drawn0 w w')
  case atStart => exact ⟨(0), eqd, H', ⟨Nat.le_refl _⟩, by repeat (first | exact Drawn0.refl _ | apply Drawn0.step)⟩
  case round =>
   clear H'
   try clear c1
   try clear p2
   try clear c3
   try clear c3b0
   try clear c3b1
   try clear c3b2
   obtain ⟨x13_1, rfl, HA, HK1, ⟨m1, rfl⟩⟩ := hrel
   cases gk with
   | zero => exact absurd HA.out (by simp [laws_jRows.l0])
   | succ k1 =>
    have H := HA.out
    clear HA
    simp only [laws_jRows.l0] at H
    by_cases c4 : x13_1 < (l0.length : Int)
    ·rw [if_pos c4] at H
     have c4b0 : decide (x13_1 < (l0.length : Int)) = true := decide_eq_true c4
     clear c4
     by_cases c5 : 0 ≤ x13_1
     ·rw [if_pos c5] at H
      have c5b0 : decide (0 ≤ x13_1) = true := decide_eq_true c5
      clear c5
      by_cases c6 : x13_1 < (l0.length : Int)
      ·rw [if_pos c6] at H
       have c6b0 : decide (x13_1 < (l0.length : Int)) = true := decide_eq_true c6
       clear c6
       by_cases c7 : x13_1 < (l1.length : Int)
       ·rw [if_pos c7] at H
        have c7b0 : decide (x13_1 < (l1.length : Int)) = true := decide_eq_true c7
        clear c7
        replace H := Option.bind_eq_some_iff.mp H
        obtain ⟨t144, A80, H⟩ := H
        replace H : (if t144 = true then (laws_jRows.l0 k1 l0 l1 (l0.length : Int) (wrap64 (x13_1 + 1))) else (some false)) = some r := H
        have A8 := Aside0.mk A80
        clear A80
        by_cases c9 : t144 = true
        ·subst c9
         have H1 : (laws_jRows.l0 k1 l0 l1 (l0.length : Int) (wrap64 (x13_1 + 1))) = some r := by rw [if_pos rfl] at H; exact H
         clear H
         have H := H1
         clear H1
         have H' := Aside0.mk H
         clear H
         have p142 : 0 ≤ (x13_1 : Int) := ofd
         have q142 : x13_1 < (l0.length : Int) := ofd
         obtain ⟨ad142, A142_0, c142_0, e142, hx142_0, hl142_0, hi142_0⟩ := at_L2 HR0.out x13_1 p142 q142
         cases e142
         have HR142_0 := Aside0.mk hi142_0
         have HC142_0 := Aside0.mk hl142_0
         clear hi142_0 hl142_0
         replace p142 := eq_true p142
         replace q142 := eq_true q142
         have p143 : 0 ≤ (x13_1 : Int) := ofd
         have q143 : x13_1 < (l1.length : Int) := ofd
         obtain ⟨ad143, A143_0, c143_0, e143, hx143_0, hl143_0, hi143_0⟩ := at_L2 HR1.out x13_1 p143 q143
         cases e143
         have HR143_0 := Aside0.mk hi143_0
         have HC143_0 := Aside0.mk hl143_0
         clear hi143_0 hl143_0
         replace p143 := eq_true p143
         replace q143 := eq_true q143
         go_wp2_with (first | (go_at_call 20; (with_reducible refine (laws_jSame.calls k1 _ _ (rd_L2 l0 x13_1) _ _ (rd_L2 l1 x13_1) true _ ?side1 ?side2 ?side3 ?side4 A8.out).mono ?_); (case side1 => repeat (first | exact HR142_0.out | (with_reducible refine Kd.C_alloc ?_ _) | (with_reducible refine Kd.C_drewN ?_ _) | (with_reducible refine Kd.C_drew ?_))); (case side2 => exact HC142_0.out); (case side3 => repeat (first | exact HR143_0.out | (with_reducible refine Kd.C_alloc ?_ _) | (with_reducible refine Kd.C_drewN ?_ _) | (with_reducible refine Kd.C_drew ?_))); (case side4 => exact HC143_0.out); rintro e w' ⟨rfl, ⟨nd, rfl⟩⟩; (try first | exact ⟨rfl, _, World.drewN_drewN _ _ _⟩ | exact ⟨rfl, _, Eq.trans (World.drewN_drewN _ _ _) (congrArg (World.drewN _) (Nat.add_assoc _ _ _))⟩)))
         repeat (go_quiet (first | (go_at_call 20; (with_reducible refine (laws_jSame.calls k1 _ _ (rd_L2 l0 x13_1) _ _ (rd_L2 l1 x13_1) true _ ?side1 ?side2 ?side3 ?side4 A8.out).mono ?_); (case side1 => repeat (first | exact HR142_0.out | (with_reducible refine Kd.C_alloc ?_ _) | (with_reducible refine Kd.C_drewN ?_ _) | (with_reducible refine Kd.C_drew ?_))); (case side2 => exact HC142_0.out); (case side3 => repeat (first | exact HR143_0.out | (with_reducible refine Kd.C_alloc ?_ _) | (with_reducible refine Kd.C_drewN ?_ _) | (with_reducible refine Kd.C_drew ?_))); (case side4 => exact HC143_0.out); rintro e w' ⟨rfl, ⟨nd, rfl⟩⟩; (try first | exact ⟨rfl, _, World.drewN_drewN _ _ _⟩ | exact ⟨rfl, _, Eq.trans (World.drewN_drewN _ _ _) (congrArg (World.drewN _) (Nat.add_assoc _ _ _))⟩))); try go_wp2_with (first | (go_at_call 20; (with_reducible refine (laws_jSame.calls k1 _ _ (rd_L2 l0 x13_1) _ _ (rd_L2 l1 x13_1) true _ ?side1 ?side2 ?side3 ?side4 A8.out).mono ?_); (case side1 => repeat (first | exact HR142_0.out | (with_reducible refine Kd.C_alloc ?_ _) | (with_reducible refine Kd.C_drewN ?_ _) | (with_reducible refine Kd.C_drew ?_))); (case side2 => exact HC142_0.out); (case side3 => repeat (first | exact HR143_0.out | (with_reducible refine Kd.C_alloc ?_ _) | (with_reducible refine Kd.C_drewN ?_ _) | (with_reducible refine Kd.C_drew ?_))); (case side4 => exact HC143_0.out); rintro e w' ⟨rfl, ⟨nd, rfl⟩⟩; (try first | exact ⟨rfl, _, World.drewN_drewN _ _ _⟩ | exact ⟨rfl, _, Eq.trans (World.drewN_drewN _ _ _) (congrArg (World.drewN _) (Nat.add_assoc _ _ _))⟩))))
         go_roundg k1
         case measure => have := HK1.out; omega
         case rel => exact ⟨(wrap64 (x13_1 + 1)), eqd, H', ⟨by have := HK1.out; omega⟩, by repeat (first | exact Drawn0.refl _ | apply Drawn0.step)⟩
        ·replace c9 := Bool.eq_false_iff.mpr c9
         subst c9
         have H1 : (some false) = some r := by rw [if_neg (show ¬ (false = true) by decide)] at H; exact H
         clear H
         have H := H1
         clear H1
         obtain rfl := Option.some.inj H
         have p142 : 0 ≤ (x13_1 : Int) := ofd
         have q142 : x13_1 < (l0.length : Int) := ofd
         obtain ⟨ad142, A142_0, c142_0, e142, hx142_0, hl142_0, hi142_0⟩ := at_L2 HR0.out x13_1 p142 q142
         cases e142
         have HR142_0 := Aside0.mk hi142_0
         have HC142_0 := Aside0.mk hl142_0
         clear hi142_0 hl142_0
         replace p142 := eq_true p142
         replace q142 := eq_true q142
         have p143 : 0 ≤ (x13_1 : Int) := ofd
         have q143 : x13_1 < (l1.length : Int) := ofd
         obtain ⟨ad143, A143_0, c143_0, e143, hx143_0, hl143_0, hi143_0⟩ := at_L2 HR1.out x13_1 p143 q143
         cases e143
         have HR143_0 := Aside0.mk hi143_0
         have HC143_0 := Aside0.mk hl143_0
         clear hi143_0 hl143_0
         replace p143 := eq_true p143
         replace q143 := eq_true q143
         go_wp2_with (first | (go_at_call 20; (with_reducible refine (laws_jSame.calls k1 _ _ (rd_L2 l0 x13_1) _ _ (rd_L2 l1 x13_1) false _ ?side1 ?side2 ?side3 ?side4 A8.out).mono ?_); (case side1 => repeat (first | exact HR142_0.out | (with_reducible refine Kd.C_alloc ?_ _) | (with_reducible refine Kd.C_drewN ?_ _) | (with_reducible refine Kd.C_drew ?_))); (case side2 => exact HC142_0.out); (case side3 => repeat (first | exact HR143_0.out | (with_reducible refine Kd.C_alloc ?_ _) | (with_reducible refine Kd.C_drewN ?_ _) | (with_reducible refine Kd.C_drew ?_))); (case side4 => exact HC143_0.out); rintro e w' ⟨rfl, ⟨nd, rfl⟩⟩; (try first | exact ⟨rfl, _, World.drewN_drewN _ _ _⟩ | exact ⟨rfl, _, Eq.trans (World.drewN_drewN _ _ _) (congrArg (World.drewN _) (Nat.add_assoc _ _ _))⟩)))
         repeat (go_quiet (first | (go_at_call 20; (with_reducible refine (laws_jSame.calls k1 _ _ (rd_L2 l0 x13_1) _ _ (rd_L2 l1 x13_1) false _ ?side1 ?side2 ?side3 ?side4 A8.out).mono ?_); (case side1 => repeat (first | exact HR142_0.out | (with_reducible refine Kd.C_alloc ?_ _) | (with_reducible refine Kd.C_drewN ?_ _) | (with_reducible refine Kd.C_drew ?_))); (case side2 => exact HC142_0.out); (case side3 => repeat (first | exact HR143_0.out | (with_reducible refine Kd.C_alloc ?_ _) | (with_reducible refine Kd.C_drewN ?_ _) | (with_reducible refine Kd.C_drew ?_))); (case side4 => exact HC143_0.out); rintro e w' ⟨rfl, ⟨nd, rfl⟩⟩; (try first | exact ⟨rfl, _, World.drewN_drewN _ _ _⟩ | exact ⟨rfl, _, Eq.trans (World.drewN_drewN _ _ _) (congrArg (World.drewN _) (Nat.add_assoc _ _ _))⟩))); try go_wp2_with (first | (go_at_call 20; (with_reducible refine (laws_jSame.calls k1 _ _ (rd_L2 l0 x13_1) _ _ (rd_L2 l1 x13_1) false _ ?side1 ?side2 ?side3 ?side4 A8.out).mono ?_); (case side1 => repeat (first | exact HR142_0.out | (with_reducible refine Kd.C_alloc ?_ _) | (with_reducible refine Kd.C_drewN ?_ _) | (with_reducible refine Kd.C_drew ?_))); (case side2 => exact HC142_0.out); (case side3 => repeat (first | exact HR143_0.out | (with_reducible refine Kd.C_alloc ?_ _) | (with_reducible refine Kd.C_drewN ?_ _) | (with_reducible refine Kd.C_drew ?_))); (case side4 => exact HC143_0.out); rintro e w' ⟨rfl, ⟨nd, rfl⟩⟩; (try first | exact ⟨rfl, _, World.drewN_drewN _ _ _⟩ | exact ⟨rfl, _, Eq.trans (World.drewN_drewN _ _ _) (congrArg (World.drewN _) (Nat.add_assoc _ _ _))⟩))))
         go_ret
         exact ⟨by first | rfl | (simp; done) | (simp [*]; done), by repeat (first | exact Drawn0.refl _ | apply Drawn0.step)⟩
       ·rw [if_neg c7] at H
        exact absurd H (by simp)
      ·rw [if_neg c6] at H
       exact absurd H (by simp)
     ·rw [if_neg c5] at H
      exact absurd H (by simp)
    ·rw [if_neg c4] at H
     have c4b0 : decide (x13_1 < (l0.length : Int)) = false := decide_eq_false c4
     clear c4
     obtain rfl := Option.some.inj H
     go_wp2
     repeat (go_quiet (fail); try go_wp2)
     go_ret
     exact ⟨by first | rfl | (simp; done) | (simp [*]; done), by repeat (first | exact Drawn0.refl _ | apply Drawn0.step)⟩
 ·rw [if_neg c3] at H
  have c3b0 : ((l0.length : Int) == (l1.length : Int)) = false := beq_eq_false_iff_ne.mpr c3
  have c3b1 : ((l0.length : Int) != (l1.length : Int)) = true := bne_iff_ne.mpr c3
  have c3b2 : (l0.length == l1.length) = false := by first | simpa using c3 | (simp at c3 ⊢; omega)
  obtain rfl := Option.some.inj H
  go_enter Try.func19, Try.ntmps19
  go_wp2
  repeat (go_quiet (fail); try go_wp2)
  go_ret
  exact ⟨by first | rfl | (simp; done) | (simp [*]; done), by repeat (first | exact Drawn0.refl _ | apply Drawn0.step)⟩

noncomputable def laws_jRows.L0 (x0 : List (List Int)) (x1 : List (List Int)) (x12 : Int) (x13 : Int) : Option (Bool) := lim fun k => laws_jRows.l0 k x0 x1 x12 x13
theorem laws_jRows.L0_lim (x0 : List (List Int)) (x1 : List (List Int)) (x12 : Int) (x13 : Int) : Lim (fun k => laws_jRows.l0 k x0 x1 x12 x13) (laws_jRows.L0 x0 x1 x12 x13) := Lim.of fun k => (laws_jRows.mono_l k) x0 x1 x12 x13
noncomputable def laws_jRows.F (l0 : List (List Int)) (l1 : List (List Int)) : Option (Bool) := lim fun k => laws_jRows.f k l0 l1
theorem laws_jRows.F_lim (l0 : List (List Int)) (l1 : List (List Int)) : Lim (fun k => laws_jRows.f k l0 l1) (laws_jRows.F l0 l1) := Lim.of fun k => laws_jRows.mono l0 l1 k
theorem laws_jRows.L0_eq (x0 : List (List Int)) (x1 : List (List Int)) (x12 : Int) (x13 : Int) : laws_jRows.L0 x0 x1 x12 x13 = (if x13 < x12 then (if 0 ≤ x13 then (if x13 < (x0.length : Int) then (if x13 < (x1.length : Int) then ((laws_jSame.F (rd_L2 x0 x13) (rd_L2 x1 x13)).bind fun t144 => (if t144 = true then (laws_jRows.L0 x0 x1 x12 (wrap64 (x13 + 1))) else (some false))) else (none)) else (none)) else (none)) else (some true)) :=
 Lim.step (f := fun k => laws_jRows.l0 (k + 1) x0 x1 x12 x13) (laws_jRows.L0_lim x0 x1 x12 x13) (fun _ => rfl) (by
  simp only [laws_jRows.l0]
  repeat' (first | (with_reducible first | exact Lim.const _ | exact laws_jRows.L0_lim _ _ _ _ | exact laws_jSame.F_lim _ _ | refine Lim.ite ?_ ?_ | refine Lim.bind ?_ (fun _ => ?_))))
theorem laws_jRows.F_eq (l0 : List (List Int)) (l1 : List (List Int)) : laws_jRows.F l0 l1 = (if (l0.length : Int) = (l1.length : Int) then (laws_jRows.L0 l0 l1 (l0.length : Int) 0) else (some false)) :=
 Lim.unique (laws_jRows.F_lim l0 l1) (by
  unfold laws_jRows.f
  repeat' (first | (with_reducible first | exact Lim.const _ | exact laws_jRows.L0_lim _ _ _ _ | refine Lim.ite ?_ ?_ | refine Lim.bind ?_ (fun _ => ?_))))

end Go.Proofs.Ytaohgllnoomaeaa.Fn
namespace Go.Proofs.Ytaohgllnoomaeaa.Fn
open Go.RowKit Go.Proofs.YtaohgllnoomaeaaW.PrintWords Go.Proofs.YtaohgllnoomaeaaW.PrintLast Go.Proofs.YtaohgllnoomaeaaW.PrintMore
attribute [local go_sem] max2_int min2_int max_two min_two max_three min_three max_four min_four   -- for this text's walks alone
set_option linter.unusedVariables false
set_option linter.unusedSimpArgs false

/-! ### laws_jLess: function 23 -/
mutual
def laws_jLess.l0 : Nat → List Int → List Int → Int → Option (Bool)
 | 0, _, _, _ => none
 | k + 1, x0, x1, x5 => if x5 < (x0.length : Int) then (laws_jLess.j1 k x0 x1 x5 (decide (x5 < (x1.length : Int)))) else (laws_jLess.j1 k x0 x1 x5 false)
def laws_jLess.j1 : Nat → List Int → List Int → Int → Bool → Option (Bool)
 | 0, _, _, _, _ => none
 | k + 1, x0, x1, x5, x15 => if x15 = true then (if 0 ≤ x5 then (if x5 < (x0.length : Int) then (if x5 < (x1.length : Int) then (if (rd x0 x5) = (rd x1 x5) then (laws_jLess.l0 k x0 x1 (wrap64 (x5 + 1))) else (some (decide ((rd x0 x5) < (rd x1 x5))))) else (none)) else (none)) else (none)) else (some (decide ((x0.length : Int) < (x1.length : Int))))
end
def laws_jLess.f (k : Nat) (l0 : List Int) (l1 : List Int) : Option (Bool) := laws_jLess.l0 k l0 l1 0
theorem laws_jLess.mono_l : ∀ k, (∀ y0 y1 y2, LeO (laws_jLess.l0 k y0 y1 y2) (laws_jLess.l0 (k + 1) y0 y1 y2)) ∧ (∀ y0 y1 y2 y3, LeO (laws_jLess.j1 k y0 y1 y2 y3) (laws_jLess.j1 (k + 1) y0 y1 y2 y3))
 | 0 => ⟨fun _ _ _ r h => by simp [laws_jLess.l0] at h, fun _ _ _ _ r h => by simp [laws_jLess.j1] at h⟩
 | k + 1 => by
  obtain ⟨ih0, ih1⟩ := laws_jLess.mono_l k
  refine ⟨?_, ?_⟩
  ·intro y0 y1 y2
   unfold laws_jLess.l0
   repeat' (first | (with_reducible first | exact ih1 _ _ _ _ | exact LeO.refl _ | exact LeO.none _ | refine LeO.ite ?_ ?_ | refine LeO.bind ?_ (fun _ => ?_)) | exact ih1 _ _ _ _ | exact LeO.none _ | refine LeO.ite ?_ ?_ | refine LeO.bind ?_ (fun _ => ?_))
  ·intro y0 y1 y2 y3
   unfold laws_jLess.j1
   repeat' (first | (with_reducible first | exact ih0 _ _ _ | exact LeO.refl _ | exact LeO.none _ | refine LeO.ite ?_ ?_ | refine LeO.bind ?_ (fun _ => ?_)) | exact ih0 _ _ _ | exact LeO.none _ | refine LeO.ite ?_ ?_ | refine LeO.bind ?_ (fun _ => ?_))
theorem laws_jLess.mono : ∀ a0 a1 k, LeO (laws_jLess.f k a0 a1) (laws_jLess.f (k + 1) a0 a1) := by
 intro a0 a1 k
 obtain ⟨ih0, ih1⟩ := laws_jLess.mono_l k
 unfold laws_jLess.f
 repeat' (first | (with_reducible first | exact ih0 _ _ _ | exact LeO.refl _ | exact LeO.none _ | refine LeO.ite ?_ ?_ | refine LeO.bind ?_ (fun _ => ?_)) | exact ih0 _ _ _ | exact LeO.none _ | refine LeO.ite ?_ ?_ | refine LeO.bind ?_ (fun _ => ?_))
set_option maxHeartbeats 8000000 in
set_option maxRecDepth 100000 in
theorem laws_jLess.calls (k : Nat) (A0 : Option Addr) (c0 : Nat) (l0 : List Int) (A1 : Option Addr) (c1 : Nat) (l1 : List Int) (r : Bool) (w : World) (hr0 : Kd.C (Kd.int .i64) w A0 l0.length l0) (hc0 : l0.length ≤ c0) (hr1 : Kd.C (Kd.int .i64) w A1 l1.length l1) (hc1 : l1.length ≤ c1) (h : laws_jLess.f k l0 l1 = some r) :
  Calls Try.prog 23 #[.slice A0 l0.length c0, .slice A1 l1.length c1] w fun e w' => e = .returned (.bool r) ∧ Drawn0 w w' := by
 have HR0 := Aside0.mk hr0
 have HC0 := Aside0.mk hc0
 clear hr0 hc0
 have HR1 := Aside0.mk hr1
 have HC1 := Aside0.mk hc1
 clear hr1 hc1
 have H := h
 unfold laws_jLess.f at H
 clear h
 have H' := Aside0.mk H
 clear H
 go_enter Try.func23, Try.ntmps23
 go_wp2
 repeat (go_quiet (fail); try go_wp2)
 go_loopg [5] k (fun kq v5 w' => ∃ (x5_1 : Int), v5 = .int .i64 x5_1 ∧ Aside0 (laws_jLess.l0 kq l0 l1 x5_1 = some r) ∧ Aside0 (kq ≤ k) ∧ Drawn0 w w')
 case atStart => exact ⟨(0), eqd, H', ⟨Nat.le_refl _⟩, by repeat (first | exact Drawn0.refl _ | apply Drawn0.step)⟩
 case round =>
  clear H'
  try clear c1
  try clear c2
  try clear p2
  obtain ⟨x5_1, rfl, HA, HK1, ⟨m1, rfl⟩⟩ := hrel
  cases gk with
  | zero => exact absurd HA.out (by simp [laws_jLess.l0])
  | succ k1 =>
   have H := HA.out
   clear HA
   simp only [laws_jLess.l0] at H
   have HC3 := Aside0.mk H
   clear H
   go_upto_region 2 with (fail)
   repeat (go_quiet (fail); go_upto_region 2 with (fail))
   go_cut [15] (fun v15 wc => ∃ (kq : Nat) (x15_2 : Bool), v15 = .bool x15_2 ∧ Aside0 (laws_jLess.j1 kq l0 l1 x5_1 x15_2 = some r) ∧ Aside0 (kq ≤ k1) ∧ Drawn0 w wc)
   case first =>
    have H := HC3.out
    clear HC3
    by_cases c4 : x5_1 < (l0.length : Int)
    ·rw [if_pos c4] at H
     have c4b0 : decide (x5_1 < (l0.length : Int)) = true := decide_eq_true c4
     clear c4
     (first | rw [c4b0] | (simp only [i64_w, i32_w]; rw [c4b0]) | skip)
     have H' := Aside0.mk H
     clear H
     go_wp2
     repeat (go_quiet (fail); try go_wp2)
     go_meet
     case rel => exact ⟨_, (decide (x5_1 < (l1.length : Int))), eqd, H', ⟨by have := HK1.out; first | omega | exact Nat.le_refl _⟩, by repeat (first | exact Drawn0.refl _ | apply Drawn0.step)⟩
    ·rw [if_neg c4] at H
     have c4b0 : decide (x5_1 < (l0.length : Int)) = false := decide_eq_false c4
     clear c4
     (first | rw [c4b0] | (simp only [i64_w, i32_w]; rw [c4b0]) | skip)
     have H' := Aside0.mk H
     clear H
     go_wp2
     repeat (go_quiet (fail); try go_wp2)
     go_meet
     case rel => exact ⟨_, (false), eqd, H', ⟨by have := HK1.out; first | omega | exact Nat.le_refl _⟩, by repeat (first | exact Drawn0.refl _ | apply Drawn0.step)⟩
   case rest =>
    clear HC3
    try clear c1
    try clear c2
    try clear p2
    try clear c4
    try clear c4b0
    try clear p2
    obtain ⟨kq, x15_2, rfl, HA, HJ2, ⟨mc2, rfl⟩⟩ := hcut
    cases kq with
    | zero => exact absurd HA.out (by simp [laws_jLess.j1])
    | succ kj2 =>
     have H := HA.out
     clear HA
     simp only [laws_jLess.j1] at H
     by_cases c5 : x15_2 = true
     ·subst c5
      have H1 : (if 0 ≤ x5_1 then (if x5_1 < (l0.length : Int) then (if x5_1 < (l1.length : Int) then (if (rd l0 x5_1) = (rd l1 x5_1) then (laws_jLess.l0 kj2 l0 l1 (wrap64 (x5_1 + 1))) else (some (decide ((rd l0 x5_1) < (rd l1 x5_1))))) else (none)) else (none)) else (none)) = some r := by rw [if_pos rfl] at H; exact H
      clear H
      have H := H1
      clear H1
      by_cases c6 : 0 ≤ x5_1
      ·rw [if_pos c6] at H
       have c6b0 : decide (0 ≤ x5_1) = true := decide_eq_true c6
       clear c6
       by_cases c7 : x5_1 < (l0.length : Int)
       ·rw [if_pos c7] at H
        have c7b0 : decide (x5_1 < (l0.length : Int)) = true := decide_eq_true c7
        clear c7
        by_cases c8 : x5_1 < (l1.length : Int)
        ·rw [if_pos c8] at H
         have c8b0 : decide (x5_1 < (l1.length : Int)) = true := decide_eq_true c8
         clear c8
         by_cases c9 : (rd l0 x5_1) = (rd l1 x5_1)
         ·rw [if_pos c9] at H
          have c9b0 : ((rd l0 x5_1) == (rd l1 x5_1)) = true := beq_iff_eq.mpr c9
          have c9b1 : ((rd l0 x5_1) != (rd l1 x5_1)) = false := bne_eq_false_iff_eq.mpr c9
          clear c9
          have H' := Aside0.mk H
          clear H
          have p172 : 0 ≤ (x5_1 : Int) := ofd
          have q172 : x5_1 < (l0.length : Int) := ofd
          obtain ⟨ad172, e172, hx172_0⟩ := Kd.at_int HR0.out x5_1 p172 q172
          cases e172
          replace p172 := eq_true p172
          replace q172 := eq_true q172
          have p173 : 0 ≤ (x5_1 : Int) := ofd
          have q173 : x5_1 < (l1.length : Int) := ofd
          obtain ⟨ad173, e173, hx173_0⟩ := Kd.at_int HR1.out x5_1 p173 q173
          cases e173
          replace p173 := eq_true p173
          replace q173 := eq_true q173
          go_wp2
          repeat (go_quiet (fail); try go_wp2)
          go_roundg kj2
          case measure => have := HK1.out; have := HJ2.out; omega
          case rel => exact ⟨(wrap64 (x5_1 + 1)), eqd, H', ⟨by have := HK1.out; have := HJ2.out; omega⟩, by repeat (first | exact Drawn0.refl _ | apply Drawn0.step)⟩
         ·rw [if_neg c9] at H
          have c9b0 : ((rd l0 x5_1) == (rd l1 x5_1)) = false := beq_eq_false_iff_ne.mpr c9
          have c9b1 : ((rd l0 x5_1) != (rd l1 x5_1)) = true := bne_iff_ne.mpr c9
          obtain rfl := Option.some.inj H
          have p172 : 0 ≤ (x5_1 : Int) := ofd
          have q172 : x5_1 < (l0.length : Int) := ofd
          obtain ⟨ad172, e172, hx172_0⟩ := Kd.at_int HR0.out x5_1 p172 q172
          cases e172
          replace p172 := eq_true p172
          replace q172 := eq_true q172
          have p173 : 0 ≤ (x5_1 : Int) := ofd
          have q173 : x5_1 < (l1.length : Int) := ofd
          obtain ⟨ad173, e173, hx173_0⟩ := Kd.at_int HR1.out x5_1 p173 q173
          cases e173
          replace p173 := eq_true p173
          replace q173 := eq_true q173
          have p174 : 0 ≤ (x5_1 : Int) := ofd
          have q174 : x5_1 < (l0.length : Int) := ofd
          obtain ⟨ad174, e174, hx174_0⟩ := Kd.at_int HR0.out x5_1 p174 q174
          obtain rfl : ad172 = ad174 := (by injection e174)
          replace p174 := eq_true p174
          replace q174 := eq_true q174
          have p175 : 0 ≤ (x5_1 : Int) := ofd
          have q175 : x5_1 < (l1.length : Int) := ofd
          obtain ⟨ad175, e175, hx175_0⟩ := Kd.at_int HR1.out x5_1 p175 q175
          obtain rfl : ad173 = ad175 := (by injection e175)
          replace p175 := eq_true p175
          replace q175 := eq_true q175
          go_wp2
          repeat (go_quiet (fail); try go_wp2)
          go_ret
          exact ⟨by first | rfl | (simp; done) | (simp [*]; done), by repeat (first | exact Drawn0.refl _ | apply Drawn0.step)⟩
        ·rw [if_neg c8] at H
         exact absurd H (by simp)
       ·rw [if_neg c7] at H
        exact absurd H (by simp)
      ·rw [if_neg c6] at H
       exact absurd H (by simp)
     ·replace c5 := Bool.eq_false_iff.mpr c5
      subst c5
      have H1 : (some (decide ((l0.length : Int) < (l1.length : Int)))) = some r := by rw [if_neg (show ¬ (false = true) by decide)] at H; exact H
      clear H
      have H := H1
      clear H1
      obtain rfl := Option.some.inj H
      go_wp2
      repeat (go_quiet (fail); try go_wp2)
      go_ret
      exact ⟨by first | rfl | (simp; done) | (simp [*]; done), by repeat (first | exact Drawn0.refl _ | apply Drawn0.step)⟩

noncomputable def laws_jLess.L0 (x0 : List Int) (x1 : List Int) (x5 : Int) : Option (Bool) := lim fun k => laws_jLess.l0 k x0 x1 x5
theorem laws_jLess.L0_lim (x0 : List Int) (x1 : List Int) (x5 : Int) : Lim (fun k => laws_jLess.l0 k x0 x1 x5) (laws_jLess.L0 x0 x1 x5) := Lim.of fun k => (laws_jLess.mono_l k).1 x0 x1 x5
noncomputable def laws_jLess.J1 (x0 : List Int) (x1 : List Int) (x5 : Int) (x15 : Bool) : Option (Bool) := lim fun k => laws_jLess.j1 k x0 x1 x5 x15
theorem laws_jLess.J1_lim (x0 : List Int) (x1 : List Int) (x5 : Int) (x15 : Bool) : Lim (fun k => laws_jLess.j1 k x0 x1 x5 x15) (laws_jLess.J1 x0 x1 x5 x15) := Lim.of fun k => (laws_jLess.mono_l k).2 x0 x1 x5 x15
noncomputable def laws_jLess.F (l0 : List Int) (l1 : List Int) : Option (Bool) := lim fun k => laws_jLess.f k l0 l1
theorem laws_jLess.F_lim (l0 : List Int) (l1 : List Int) : Lim (fun k => laws_jLess.f k l0 l1) (laws_jLess.F l0 l1) := Lim.of fun k => laws_jLess.mono l0 l1 k
theorem laws_jLess.L0_eq (x0 : List Int) (x1 : List Int) (x5 : Int) : laws_jLess.L0 x0 x1 x5 = (if x5 < (x0.length : Int) then (laws_jLess.J1 x0 x1 x5 (decide (x5 < (x1.length : Int)))) else (laws_jLess.J1 x0 x1 x5 false)) :=
 Lim.step (f := fun k => laws_jLess.l0 (k + 1) x0 x1 x5) (laws_jLess.L0_lim x0 x1 x5) (fun _ => rfl) (by
  simp only [laws_jLess.l0]
  repeat' (first | (with_reducible first | exact Lim.const _ | exact laws_jLess.J1_lim _ _ _ _ | refine Lim.ite ?_ ?_ | refine Lim.bind ?_ (fun _ => ?_))))
theorem laws_jLess.J1_eq (x0 : List Int) (x1 : List Int) (x5 : Int) (x15 : Bool) : laws_jLess.J1 x0 x1 x5 x15 = (if x15 = true then (if 0 ≤ x5 then (if x5 < (x0.length : Int) then (if x5 < (x1.length : Int) then (if (rd x0 x5) = (rd x1 x5) then (laws_jLess.L0 x0 x1 (wrap64 (x5 + 1))) else (some (decide ((rd x0 x5) < (rd x1 x5))))) else (none)) else (none)) else (none)) else (some (decide ((x0.length : Int) < (x1.length : Int))))) :=
 Lim.step (f := fun k => laws_jLess.j1 (k + 1) x0 x1 x5 x15) (laws_jLess.J1_lim x0 x1 x5 x15) (fun _ => rfl) (by
  simp only [laws_jLess.j1]
  repeat' (first | (with_reducible first | exact Lim.const _ | exact laws_jLess.L0_lim _ _ _ | refine Lim.ite ?_ ?_ | refine Lim.bind ?_ (fun _ => ?_))))
theorem laws_jLess.F_eq (l0 : List Int) (l1 : List Int) : laws_jLess.F l0 l1 = (laws_jLess.L0 l0 l1 0) :=
 Lim.unique (laws_jLess.F_lim l0 l1) (by
  unfold laws_jLess.f
  repeat' (first | (with_reducible first | exact Lim.const _ | exact laws_jLess.L0_lim _ _ _ | refine Lim.ite ?_ ?_ | refine Lim.bind ?_ (fun _ => ?_))))

end Go.Proofs.Ytaohgllnoomaeaa.Fn
namespace Go.Proofs.Ytaohgllnoomaeaa.Fn
open Go.RowKit Go.Proofs.YtaohgllnoomaeaaW.PrintWords Go.Proofs.YtaohgllnoomaeaaW.PrintLast Go.Proofs.YtaohgllnoomaeaaW.PrintMore
attribute [local go_sem] max2_int min2_int max_two min_two max_three min_three max_four min_four   -- for this text's walks alone
set_option linter.unusedVariables false
set_option linter.unusedSimpArgs false

/-! ### laws_FnHolesAnywhere: function 8 -/
mutual
def laws_FnHolesAnywhere.j0 : Nat → List Int → Int → Int → List (List Int) → Bool → Int → List Int → Bool → Option (Bool)
 | 0, _, _, _, _, _, _, _, _ => none
 | k + 1, x1, x5, x6, x7, x8, x11, x15, x165 => if x165 = true then (some false) else (if x8 = true then ((impl_CountExtended.f x5 (wrap64 ((wrap64 (2 * x5)) - x6))).bind fun bt1281 => (if (x7.length : Int) = x11 then (if x11 > 0 then (if 0 < (x7.length : Int) then ((laws_jSame.f k (rd_L2 x7 0) x15).bind fun t1284 => (if t1284 = true then (if bt1281.2 = true then (laws_FnHolesAnywhere.j1 k x1 x5 x6 x7 x11 (bt1281.1 != x11)) else (laws_FnHolesAnywhere.j1 k x1 x5 x6 x7 x11 true)) else (laws_FnHolesAnywhere.j1 k x1 x5 x6 x7 x11 true))) else (none)) else (if bt1281.2 = true then (laws_FnHolesAnywhere.j1 k x1 x5 x6 x7 x11 (bt1281.1 != x11)) else (laws_FnHolesAnywhere.j1 k x1 x5 x6 x7 x11 true))) else (laws_FnHolesAnywhere.j1 k x1 x5 x6 x7 x11 true))) else (laws_FnHolesAnywhere.j5 k x1))
def laws_FnHolesAnywhere.j5 : Nat → List Int → Option (Bool)
 | 0, _ => none
 | k + 1, x1 => (spec_DrawSkolemOfExtended.f k x1).bind fun t1552 => ((impl_SkolemOfExtended.f k t1552).bind fun bt1555 => ((spec_SkolemOfExtended.f k t1552).bind fun bt1559 => ((impl_IsExtended.f k t1552).bind fun bt1563 => ((spec_IsExtended.f k t1552).bind fun bt1565 => ((impl_HoleOf.f k t1552).bind fun bt1567 => ((spec_HoleOf.f k t1552).bind fun bt1569 => ((spec_DrawIsExtendedThere.f x1).bind fun bt1571 => ((impl_IsExtendedThere.f bt1571.1 bt1571.2).bind fun bt1573 => ((spec_IsExtendedThere.f bt1571.1 bt1571.2).bind fun bt1575 => (if (bt1555.2 != bt1559.2) = true then (laws_FnHolesAnywhere.j6 k t1552 bt1555.1 bt1555.2 true) else ((laws_jSame.f k bt1555.1 bt1559.1).bind fun t1577 => (if t1577 = true then (if (bt1563.2 != bt1565.2) = true then (laws_FnHolesAnywhere.j6 k t1552 bt1555.1 bt1555.2 true) else (if (bt1563.1 != bt1565.1) = true then (laws_FnHolesAnywhere.j6 k t1552 bt1555.1 bt1555.2 true) else (if (bt1567.2 != bt1569.2) = true then (laws_FnHolesAnywhere.j6 k t1552 bt1555.1 bt1555.2 true) else (if bt1567.1 = bt1569.1 then (if (bt1573.2 != bt1575.2) = true then (laws_FnHolesAnywhere.j6 k t1552 bt1555.1 bt1555.2 true) else (if (bt1573.1 != bt1575.1) = true then (laws_FnHolesAnywhere.j6 k t1552 bt1555.1 bt1555.2 true) else (if bt1563.2 = true then (laws_FnHolesAnywhere.j6 k t1552 bt1555.1 bt1555.2 (bt1567.2 != bt1563.1)) else (laws_FnHolesAnywhere.j6 k t1552 bt1555.1 bt1555.2 (bt1567.2 != false))))) else (laws_FnHolesAnywhere.j6 k t1552 bt1555.1 bt1555.2 true))))) else (laws_FnHolesAnywhere.j6 k t1552 bt1555.1 bt1555.2 true)))))))))))))
def laws_FnHolesAnywhere.j6 : Nat → List Int → List Int → Bool → Bool → Option (Bool)
 | 0, _, _, _, _ => none
 | k + 1, x37, x38, x39, x406 => if x406 = true then (some false) else (if x39 = true then ((impl_IsSkolem.f k x38).bind fun bt1578 => ((impl_TrimRow.f k x37).bind fun bt1580 => (if bt1578.2 = true then (if bt1578.1 = true then (if bt1580.2 = true then ((laws_jSame.f k bt1580.1 x38).bind fun t1584 => (some t1584)) else (some false)) else (some false)) else (some false)))) else (some true))
def laws_FnHolesAnywhere.j1 : Nat → List Int → Int → Int → List (List Int) → Int → Bool → Option (Bool)
 | 0, _, _, _, _, _, _ => none
 | k + 1, x1, x5, x6, x7, x11, x200 => if x200 = true then (some false) else (laws_FnHolesAnywhere.l0 k x1 x5 x6 x7 x11 x7 (x7.length : Int) 0)
def laws_FnHolesAnywhere.l0 : Nat → List Int → Int → Int → List (List Int) → Int → List (List Int) → Int → Int → Option (Bool)
 | 0, _, _, _, _, _, _, _, _ => none
 | k + 1, x1, x5, x6, x7, x11, x201, x202, x203 => if x203 < x202 then (if 0 ≤ x203 then (if x203 < (x201.length : Int) then ((impl_IsExtended.f k (rd_L2 x201 x203)).bind fun bt1286 => ((impl_HoleOf.f k (rd_L2 x201 x203)).bind fun bt1288 => ((impl_BackRow.f k (rd_L2 x201 x203)).bind fun bt1290 => ((impl_HoleOf.f k bt1290.1).bind fun bt1294 => (if bt1286.2 = true then (if bt1286.1 = true then (if bt1288.2 = true then (if bt1288.1 = x6 then (if bt1290.2 = true then (if bt1294.2 = true then (if bt1294.1 = (wrap64 ((wrap64 (2 * x5)) - x6)) then (if x203 > 0 then (if 0 ≤ (wrap64 (x203 - 1)) then (if (wrap64 (x203 - 1)) < (x7.length : Int) then ((laws_jLess.f k (rd_L2 x7 (wrap64 (x203 - 1))) (rd_L2 x201 x203)).bind fun t1297 => (if t1297 = true then (laws_FnHolesAnywhere.l0 k x1 x5 x6 x7 x11 x201 x202 (wrap64 (x203 + 1))) else (some false))) else (none)) else (none)) else (laws_FnHolesAnywhere.l0 k x1 x5 x6 x7 x11 x201 x202 (wrap64 (x203 + 1)))) else (some false)) else (some false)) else (some false)) else (some false)) else (some false)) else (some false)) else (some false)))))) else (none)) else (none)) else (if x6 = (wrap64 (2 * x5)) then (laws_FnHolesAnywhere.j3 k x1 x5 x6 x11 true) else (laws_FnHolesAnywhere.j3 k x1 x5 x6 x11 (x6 == 0)))
def laws_FnHolesAnywhere.j3 : Nat → List Int → Int → Int → Int → Bool → Option (Bool)
 | 0, _, _, _, _, _ => none
 | k + 1, x1, x5, x6, x11, x281 => if x281 = true then ((impl_CountSkolem.f x5).bind fun bt1304 => (if bt1304.2 = true then (if bt1304.1 = x11 then (laws_FnHolesAnywhere.j4 k x1 x5 x6 x11) else (some false)) else (some false))) else (laws_FnHolesAnywhere.j4 k x1 x5 x6 x11)
def laws_FnHolesAnywhere.j4 : Nat → List Int → Int → Int → Int → Option (Bool)
 | 0, _, _, _, _ => none
 | k + 1, x1, x5, x6, x11 => if x6 = (wrap64 ((wrap64 (2 * x5)) - 1)) then ((impl_CountHooked.f x5).bind fun bt1306 => (if bt1306.2 = true then (if bt1306.1 = x11 then (laws_FnHolesAnywhere.j5 k x1) else (some false)) else (some false))) else (laws_FnHolesAnywhere.j5 k x1)
end
def laws_FnHolesAnywhere.f (k : Nat) (l0 : List Int) (l1 : List Int) : Option (Bool) := (laws_big.f l0 l1).bind fun t1254 => (if t1254 = true then (some true) else ((spec_DrawAllExtended.f l0).bind fun bt1255 => ((impl_AllExtended.f bt1255.1 bt1255.2).bind fun bt1257 => ((spec_AllExtended.f bt1255.1 bt1255.2).bind fun bt1261 => ((impl_CountExtended.f bt1255.1 bt1255.2).bind fun bt1265 => ((spec_CountExtended.f bt1255.1 bt1255.2).bind fun bt1267 => ((impl_FirstExtended.f bt1255.1 bt1255.2).bind fun bt1269 => ((spec_FirstExtended.f bt1255.1 bt1255.2).bind fun bt1273 => ((impl_IsExtendedThere.f bt1255.1 bt1255.2).bind fun bt1277 => (if (bt1257.2 != bt1261.2) = true then (laws_FnHolesAnywhere.j0 k l1 bt1255.1 bt1255.2 bt1257.1 bt1257.2 bt1265.1 bt1269.1 true) else ((laws_jRows.f k bt1257.1 bt1261.1).bind fun t1279 => (if t1279 = true then (if (bt1265.2 != bt1267.2) = true then (laws_FnHolesAnywhere.j0 k l1 bt1255.1 bt1255.2 bt1257.1 bt1257.2 bt1265.1 bt1269.1 true) else (if bt1265.1 = bt1267.1 then (if (bt1269.2 != bt1273.2) = true then (laws_FnHolesAnywhere.j0 k l1 bt1255.1 bt1255.2 bt1257.1 bt1257.2 bt1265.1 bt1269.1 true) else ((laws_jSame.f k bt1269.1 bt1273.1).bind fun t1280 => (if t1280 = true then (if (bt1265.2 != bt1257.2) = true then (laws_FnHolesAnywhere.j0 k l1 bt1255.1 bt1255.2 bt1257.1 bt1257.2 bt1265.1 bt1269.1 true) else (if bt1257.2 = true then (if (bt1269.2 != (decide (bt1265.1 > 0))) = true then (laws_FnHolesAnywhere.j0 k l1 bt1255.1 bt1255.2 bt1257.1 bt1257.2 bt1265.1 bt1269.1 true) else (if bt1277.2 = true then (laws_FnHolesAnywhere.j0 k l1 bt1255.1 bt1255.2 bt1257.1 bt1257.2 bt1265.1 bt1269.1 (bt1277.1 != (decide (bt1265.1 > 0)))) else (laws_FnHolesAnywhere.j0 k l1 bt1255.1 bt1255.2 bt1257.1 bt1257.2 bt1265.1 bt1269.1 true))) else (if (bt1269.2 != false) = true then (laws_FnHolesAnywhere.j0 k l1 bt1255.1 bt1255.2 bt1257.1 bt1257.2 bt1265.1 bt1269.1 true) else (laws_FnHolesAnywhere.j0 k l1 bt1255.1 bt1255.2 bt1257.1 bt1257.2 bt1265.1 bt1269.1 false)))) else (laws_FnHolesAnywhere.j0 k l1 bt1255.1 bt1255.2 bt1257.1 bt1257.2 bt1265.1 bt1269.1 true)))) else (laws_FnHolesAnywhere.j0 k l1 bt1255.1 bt1255.2 bt1257.1 bt1257.2 bt1265.1 bt1269.1 true))) else (laws_FnHolesAnywhere.j0 k l1 bt1255.1 bt1255.2 bt1257.1 bt1257.2 bt1265.1 bt1269.1 true)))))))))))))
theorem laws_FnHolesAnywhere.mono_l : ∀ k, (∀ y0 y1 y2 y3 y4 y5 y6 y7, LeO (laws_FnHolesAnywhere.j0 k y0 y1 y2 y3 y4 y5 y6 y7) (laws_FnHolesAnywhere.j0 (k + 1) y0 y1 y2 y3 y4 y5 y6 y7)) ∧ (∀ y0, LeO (laws_FnHolesAnywhere.j5 k y0) (laws_FnHolesAnywhere.j5 (k + 1) y0)) ∧ (∀ y0 y1 y2 y3, LeO (laws_FnHolesAnywhere.j6 k y0 y1 y2 y3) (laws_FnHolesAnywhere.j6 (k + 1) y0 y1 y2 y3)) ∧ (∀ y0 y1 y2 y3 y4 y5, LeO (laws_FnHolesAnywhere.j1 k y0 y1 y2 y3 y4 y5) (laws_FnHolesAnywhere.j1 (k + 1) y0 y1 y2 y3 y4 y5)) ∧ (∀ y0 y1 y2 y3 y4 y5 y6 y7, LeO (laws_FnHolesAnywhere.l0 k y0 y1 y2 y3 y4 y5 y6 y7) (laws_FnHolesAnywhere.l0 (k + 1) y0 y1 y2 y3 y4 y5 y6 y7)) ∧ (∀ y0 y1 y2 y3 y4, LeO (laws_FnHolesAnywhere.j3 k y0 y1 y2 y3 y4) (laws_FnHolesAnywhere.j3 (k + 1) y0 y1 y2 y3 y4)) ∧ (∀ y0 y1 y2 y3, LeO (laws_FnHolesAnywhere.j4 k y0 y1 y2 y3) (laws_FnHolesAnywhere.j4 (k + 1) y0 y1 y2 y3))
 | 0 => ⟨fun _ _ _ _ _ _ _ _ r h => by simp [laws_FnHolesAnywhere.j0] at h, fun _ r h => by simp [laws_FnHolesAnywhere.j5] at h, fun _ _ _ _ r h => by simp [laws_FnHolesAnywhere.j6] at h, fun _ _ _ _ _ _ r h => by simp [laws_FnHolesAnywhere.j1] at h, fun _ _ _ _ _ _ _ _ r h => by simp [laws_FnHolesAnywhere.l0] at h, fun _ _ _ _ _ r h => by simp [laws_FnHolesAnywhere.j3] at h, fun _ _ _ _ r h => by simp [laws_FnHolesAnywhere.j4] at h⟩
 | k + 1 => by
  obtain ⟨ih0, ih1, ih2, ih3, ih4, ih5, ih6⟩ := laws_FnHolesAnywhere.mono_l k
  refine ⟨?_, ?_, ?_, ?_, ?_, ?_, ?_⟩
  ·intro y0 y1 y2 y3 y4 y5 y6 y7
   unfold laws_FnHolesAnywhere.j0
   repeat' (first | (with_reducible first | exact ih1 _ | exact ih3 _ _ _ _ _ _ | exact laws_jSame.mono _ _ _ | exact LeO.refl _ | exact LeO.none _ | refine LeO.ite ?_ ?_ | refine LeO.bind ?_ (fun _ => ?_)) | exact ih1 _ | exact ih3 _ _ _ _ _ _ | exact laws_jSame.mono _ _ _ | exact LeO.none _ | refine LeO.ite ?_ ?_ | refine LeO.bind ?_ (fun _ => ?_))
  ·intro y0
   unfold laws_FnHolesAnywhere.j5
   repeat' (first | (with_reducible first | exact ih2 _ _ _ _ | exact impl_HoleOf.mono _ _ | exact impl_IsExtended.mono _ _ | exact impl_SkolemOfExtended.mono _ _ | exact laws_jSame.mono _ _ _ | exact spec_DrawSkolemOfExtended.mono _ _ | exact spec_HoleOf.mono _ _ | exact spec_IsExtended.mono _ _ | exact spec_SkolemOfExtended.mono _ _ | exact LeO.refl _ | exact LeO.none _ | refine LeO.ite ?_ ?_ | refine LeO.bind ?_ (fun _ => ?_)) | exact ih2 _ _ _ _ | exact impl_HoleOf.mono _ _ | exact impl_IsExtended.mono _ _ | exact impl_SkolemOfExtended.mono _ _ | exact laws_jSame.mono _ _ _ | exact spec_DrawSkolemOfExtended.mono _ _ | exact spec_HoleOf.mono _ _ | exact spec_IsExtended.mono _ _ | exact spec_SkolemOfExtended.mono _ _ | exact LeO.none _ | refine LeO.ite ?_ ?_ | refine LeO.bind ?_ (fun _ => ?_))
  ·intro y0 y1 y2 y3
   unfold laws_FnHolesAnywhere.j6
   repeat' (first | (with_reducible first | exact impl_IsSkolem.mono _ _ | exact impl_TrimRow.mono _ _ | exact laws_jSame.mono _ _ _ | exact LeO.refl _ | exact LeO.none _ | refine LeO.ite ?_ ?_ | refine LeO.bind ?_ (fun _ => ?_)) | exact impl_IsSkolem.mono _ _ | exact impl_TrimRow.mono _ _ | exact laws_jSame.mono _ _ _ | exact LeO.none _ | refine LeO.ite ?_ ?_ | refine LeO.bind ?_ (fun _ => ?_))
  ·intro y0 y1 y2 y3 y4 y5
   unfold laws_FnHolesAnywhere.j1
   repeat' (first | (with_reducible first | exact ih4 _ _ _ _ _ _ _ _ | exact LeO.refl _ | exact LeO.none _ | refine LeO.ite ?_ ?_ | refine LeO.bind ?_ (fun _ => ?_)) | exact ih4 _ _ _ _ _ _ _ _ | exact LeO.none _ | refine LeO.ite ?_ ?_ | refine LeO.bind ?_ (fun _ => ?_))
  ·intro y0 y1 y2 y3 y4 y5 y6 y7
   unfold laws_FnHolesAnywhere.l0
   repeat' (first | (with_reducible first | exact ih4 _ _ _ _ _ _ _ _ | exact ih5 _ _ _ _ _ | exact impl_BackRow.mono _ _ | exact impl_HoleOf.mono _ _ | exact impl_IsExtended.mono _ _ | exact laws_jLess.mono _ _ _ | exact LeO.refl _ | exact LeO.none _ | refine LeO.ite ?_ ?_ | refine LeO.bind ?_ (fun _ => ?_)) | exact ih4 _ _ _ _ _ _ _ _ | exact ih5 _ _ _ _ _ | exact impl_BackRow.mono _ _ | exact impl_HoleOf.mono _ _ | exact impl_IsExtended.mono _ _ | exact laws_jLess.mono _ _ _ | exact LeO.none _ | refine LeO.ite ?_ ?_ | refine LeO.bind ?_ (fun _ => ?_))
  ·intro y0 y1 y2 y3 y4
   unfold laws_FnHolesAnywhere.j3
   repeat' (first | (with_reducible first | exact ih6 _ _ _ _ | exact LeO.refl _ | exact LeO.none _ | refine LeO.ite ?_ ?_ | refine LeO.bind ?_ (fun _ => ?_)) | exact ih6 _ _ _ _ | exact LeO.none _ | refine LeO.ite ?_ ?_ | refine LeO.bind ?_ (fun _ => ?_))
  ·intro y0 y1 y2 y3
   unfold laws_FnHolesAnywhere.j4
   repeat' (first | (with_reducible first | exact ih1 _ | exact LeO.refl _ | exact LeO.none _ | refine LeO.ite ?_ ?_ | refine LeO.bind ?_ (fun _ => ?_)) | exact ih1 _ | exact LeO.none _ | refine LeO.ite ?_ ?_ | refine LeO.bind ?_ (fun _ => ?_))
theorem laws_FnHolesAnywhere.mono : ∀ a0 a1 k, LeO (laws_FnHolesAnywhere.f k a0 a1) (laws_FnHolesAnywhere.f (k + 1) a0 a1) := by
 intro a0 a1 k
 obtain ⟨ih0, ih1, ih2, ih3, ih4, ih5, ih6⟩ := laws_FnHolesAnywhere.mono_l k
 unfold laws_FnHolesAnywhere.f
 repeat' (first | (with_reducible first | exact ih0 _ _ _ _ _ _ _ _ | exact laws_jRows.mono _ _ _ | exact laws_jSame.mono _ _ _ | exact LeO.refl _ | exact LeO.none _ | refine LeO.ite ?_ ?_ | refine LeO.bind ?_ (fun _ => ?_)) | exact ih0 _ _ _ _ _ _ _ _ | exact laws_jRows.mono _ _ _ | exact laws_jSame.mono _ _ _ | exact LeO.none _ | refine LeO.ite ?_ ?_ | refine LeO.bind ?_ (fun _ => ?_))
theorem laws_FnHolesAnywhere.j0_no : ∀ k y0 y1 y2 y3 y4 y5 y6, laws_FnHolesAnywhere.j0 k y0 y1 y2 y3 y4 y5 y6 true ≠ some true := by
 intro k
 cases k <;> intros <;> simp [laws_FnHolesAnywhere.j0]
theorem laws_FnHolesAnywhere.j6_no : ∀ k y0 y1 y2, laws_FnHolesAnywhere.j6 k y0 y1 y2 true ≠ some true := by
 intro k
 cases k <;> intros <;> simp [laws_FnHolesAnywhere.j6]
theorem laws_FnHolesAnywhere.j1_no : ∀ k y0 y1 y2 y3 y4, laws_FnHolesAnywhere.j1 k y0 y1 y2 y3 y4 true ≠ some true := by
 intro k
 cases k <;> intros <;> simp [laws_FnHolesAnywhere.j1]

end Go.Proofs.Ytaohgllnoomaeaa.Fn
namespace Go.Proofs.Ytaohgllnoomaeaa.Fn
open Go.RowKit Go.Proofs.YtaohgllnoomaeaaW.PrintWords Go.Proofs.YtaohgllnoomaeaaW.PrintLast Go.Proofs.YtaohgllnoomaeaaW.PrintMore
attribute [local go_sem] max2_int min2_int max_two min_two max_three min_three max_four min_four   -- for this text's walks alone
set_option linter.unusedVariables false
set_option linter.unusedSimpArgs false


/-- The statement of laws_FnHolesAnywhere over numbers and lists. -/
def laws_FnHolesAnywhere.Pure : Prop := ∀ (l0 : List Int) (l1 : List Int), l0.length ≤ maxLen → l0.length * 1 ≤ 140737488351232 → (∀ x ∈ l0, (Lit.int .u8 x).wf = true) → l1.length ≤ maxLen → l1.length * 1 ≤ 140737488351232 → (∀ x ∈ l1, (Lit.int .u8 x).wf = true) → ∃ k, laws_FnHolesAnywhere.f k l0 l1 = some true

noncomputable def laws_FnHolesAnywhere.J0 (x1 : List Int) (x5 : Int) (x6 : Int) (x7 : List (List Int)) (x8 : Bool) (x11 : Int) (x15 : List Int) (x165 : Bool) : Option (Bool) := lim fun k => laws_FnHolesAnywhere.j0 k x1 x5 x6 x7 x8 x11 x15 x165
theorem laws_FnHolesAnywhere.J0_lim (x1 : List Int) (x5 : Int) (x6 : Int) (x7 : List (List Int)) (x8 : Bool) (x11 : Int) (x15 : List Int) (x165 : Bool) : Lim (fun k => laws_FnHolesAnywhere.j0 k x1 x5 x6 x7 x8 x11 x15 x165) (laws_FnHolesAnywhere.J0 x1 x5 x6 x7 x8 x11 x15 x165) := Lim.of fun k => (laws_FnHolesAnywhere.mono_l k).1 x1 x5 x6 x7 x8 x11 x15 x165
noncomputable def laws_FnHolesAnywhere.J5 (x1 : List Int) : Option (Bool) := lim fun k => laws_FnHolesAnywhere.j5 k x1
theorem laws_FnHolesAnywhere.J5_lim (x1 : List Int) : Lim (fun k => laws_FnHolesAnywhere.j5 k x1) (laws_FnHolesAnywhere.J5 x1) := Lim.of fun k => (laws_FnHolesAnywhere.mono_l k).2.1 x1
noncomputable def laws_FnHolesAnywhere.J6 (x37 : List Int) (x38 : List Int) (x39 : Bool) (x406 : Bool) : Option (Bool) := lim fun k => laws_FnHolesAnywhere.j6 k x37 x38 x39 x406
theorem laws_FnHolesAnywhere.J6_lim (x37 : List Int) (x38 : List Int) (x39 : Bool) (x406 : Bool) : Lim (fun k => laws_FnHolesAnywhere.j6 k x37 x38 x39 x406) (laws_FnHolesAnywhere.J6 x37 x38 x39 x406) := Lim.of fun k => (laws_FnHolesAnywhere.mono_l k).2.2.1 x37 x38 x39 x406
noncomputable def laws_FnHolesAnywhere.J1 (x1 : List Int) (x5 : Int) (x6 : Int) (x7 : List (List Int)) (x11 : Int) (x200 : Bool) : Option (Bool) := lim fun k => laws_FnHolesAnywhere.j1 k x1 x5 x6 x7 x11 x200
theorem laws_FnHolesAnywhere.J1_lim (x1 : List Int) (x5 : Int) (x6 : Int) (x7 : List (List Int)) (x11 : Int) (x200 : Bool) : Lim (fun k => laws_FnHolesAnywhere.j1 k x1 x5 x6 x7 x11 x200) (laws_FnHolesAnywhere.J1 x1 x5 x6 x7 x11 x200) := Lim.of fun k => (laws_FnHolesAnywhere.mono_l k).2.2.2.1 x1 x5 x6 x7 x11 x200
noncomputable def laws_FnHolesAnywhere.L0 (x1 : List Int) (x5 : Int) (x6 : Int) (x7 : List (List Int)) (x11 : Int) (x201 : List (List Int)) (x202 : Int) (x203 : Int) : Option (Bool) := lim fun k => laws_FnHolesAnywhere.l0 k x1 x5 x6 x7 x11 x201 x202 x203
theorem laws_FnHolesAnywhere.L0_lim (x1 : List Int) (x5 : Int) (x6 : Int) (x7 : List (List Int)) (x11 : Int) (x201 : List (List Int)) (x202 : Int) (x203 : Int) : Lim (fun k => laws_FnHolesAnywhere.l0 k x1 x5 x6 x7 x11 x201 x202 x203) (laws_FnHolesAnywhere.L0 x1 x5 x6 x7 x11 x201 x202 x203) := Lim.of fun k => (laws_FnHolesAnywhere.mono_l k).2.2.2.2.1 x1 x5 x6 x7 x11 x201 x202 x203
noncomputable def laws_FnHolesAnywhere.J3 (x1 : List Int) (x5 : Int) (x6 : Int) (x11 : Int) (x281 : Bool) : Option (Bool) := lim fun k => laws_FnHolesAnywhere.j3 k x1 x5 x6 x11 x281
theorem laws_FnHolesAnywhere.J3_lim (x1 : List Int) (x5 : Int) (x6 : Int) (x11 : Int) (x281 : Bool) : Lim (fun k => laws_FnHolesAnywhere.j3 k x1 x5 x6 x11 x281) (laws_FnHolesAnywhere.J3 x1 x5 x6 x11 x281) := Lim.of fun k => (laws_FnHolesAnywhere.mono_l k).2.2.2.2.2.1 x1 x5 x6 x11 x281
noncomputable def laws_FnHolesAnywhere.J4 (x1 : List Int) (x5 : Int) (x6 : Int) (x11 : Int) : Option (Bool) := lim fun k => laws_FnHolesAnywhere.j4 k x1 x5 x6 x11
theorem laws_FnHolesAnywhere.J4_lim (x1 : List Int) (x5 : Int) (x6 : Int) (x11 : Int) : Lim (fun k => laws_FnHolesAnywhere.j4 k x1 x5 x6 x11) (laws_FnHolesAnywhere.J4 x1 x5 x6 x11) := Lim.of fun k => (laws_FnHolesAnywhere.mono_l k).2.2.2.2.2.2 x1 x5 x6 x11
noncomputable def laws_FnHolesAnywhere.F (l0 : List Int) (l1 : List Int) : Option (Bool) := lim fun k => laws_FnHolesAnywhere.f k l0 l1
theorem laws_FnHolesAnywhere.F_lim (l0 : List Int) (l1 : List Int) : Lim (fun k => laws_FnHolesAnywhere.f k l0 l1) (laws_FnHolesAnywhere.F l0 l1) := Lim.of fun k => laws_FnHolesAnywhere.mono l0 l1 k
theorem laws_FnHolesAnywhere.J0_eq (x1 : List Int) (x5 : Int) (x6 : Int) (x7 : List (List Int)) (x8 : Bool) (x11 : Int) (x15 : List Int) (x165 : Bool) : laws_FnHolesAnywhere.J0 x1 x5 x6 x7 x8 x11 x15 x165 = (if x165 = true then (some false) else (if x8 = true then ((impl_CountExtended.f x5 (wrap64 ((wrap64 (2 * x5)) - x6))).bind fun bt1281 => (if (x7.length : Int) = x11 then (if x11 > 0 then (if 0 < (x7.length : Int) then ((laws_jSame.F (rd_L2 x7 0) x15).bind fun t1284 => (if t1284 = true then (if bt1281.2 = true then (laws_FnHolesAnywhere.J1 x1 x5 x6 x7 x11 (bt1281.1 != x11)) else (laws_FnHolesAnywhere.J1 x1 x5 x6 x7 x11 true)) else (laws_FnHolesAnywhere.J1 x1 x5 x6 x7 x11 true))) else (none)) else (if bt1281.2 = true then (laws_FnHolesAnywhere.J1 x1 x5 x6 x7 x11 (bt1281.1 != x11)) else (laws_FnHolesAnywhere.J1 x1 x5 x6 x7 x11 true))) else (laws_FnHolesAnywhere.J1 x1 x5 x6 x7 x11 true))) else (laws_FnHolesAnywhere.J5 x1))) :=
 Lim.step (f := fun k => laws_FnHolesAnywhere.j0 (k + 1) x1 x5 x6 x7 x8 x11 x15 x165) (laws_FnHolesAnywhere.J0_lim x1 x5 x6 x7 x8 x11 x15 x165) (fun _ => rfl) (by
  simp only [laws_FnHolesAnywhere.j0]
  repeat' (first | (with_reducible first | exact Lim.const _ | exact laws_FnHolesAnywhere.J1_lim _ _ _ _ _ _ | exact laws_FnHolesAnywhere.J5_lim _ | exact laws_jSame.F_lim _ _ | refine Lim.ite ?_ ?_ | refine Lim.bind ?_ (fun _ => ?_))))
theorem laws_FnHolesAnywhere.J5_eq (x1 : List Int) : laws_FnHolesAnywhere.J5 x1 = ((spec_DrawSkolemOfExtended.F x1).bind fun t1552 => ((impl_SkolemOfExtended.F t1552).bind fun bt1555 => ((spec_SkolemOfExtended.F t1552).bind fun bt1559 => ((impl_IsExtended.F t1552).bind fun bt1563 => ((spec_IsExtended.F t1552).bind fun bt1565 => ((impl_HoleOf.F t1552).bind fun bt1567 => ((spec_HoleOf.F t1552).bind fun bt1569 => ((spec_DrawIsExtendedThere.f x1).bind fun bt1571 => ((impl_IsExtendedThere.f bt1571.1 bt1571.2).bind fun bt1573 => ((spec_IsExtendedThere.f bt1571.1 bt1571.2).bind fun bt1575 => (if (bt1555.2 != bt1559.2) = true then (laws_FnHolesAnywhere.J6 t1552 bt1555.1 bt1555.2 true) else ((laws_jSame.F bt1555.1 bt1559.1).bind fun t1577 => (if t1577 = true then (if (bt1563.2 != bt1565.2) = true then (laws_FnHolesAnywhere.J6 t1552 bt1555.1 bt1555.2 true) else (if (bt1563.1 != bt1565.1) = true then (laws_FnHolesAnywhere.J6 t1552 bt1555.1 bt1555.2 true) else (if (bt1567.2 != bt1569.2) = true then (laws_FnHolesAnywhere.J6 t1552 bt1555.1 bt1555.2 true) else (if bt1567.1 = bt1569.1 then (if (bt1573.2 != bt1575.2) = true then (laws_FnHolesAnywhere.J6 t1552 bt1555.1 bt1555.2 true) else (if (bt1573.1 != bt1575.1) = true then (laws_FnHolesAnywhere.J6 t1552 bt1555.1 bt1555.2 true) else (if bt1563.2 = true then (laws_FnHolesAnywhere.J6 t1552 bt1555.1 bt1555.2 (bt1567.2 != bt1563.1)) else (laws_FnHolesAnywhere.J6 t1552 bt1555.1 bt1555.2 (bt1567.2 != false))))) else (laws_FnHolesAnywhere.J6 t1552 bt1555.1 bt1555.2 true))))) else (laws_FnHolesAnywhere.J6 t1552 bt1555.1 bt1555.2 true)))))))))))))) :=
 Lim.step (f := fun k => laws_FnHolesAnywhere.j5 (k + 1) x1) (laws_FnHolesAnywhere.J5_lim x1) (fun _ => rfl) (by
  simp only [laws_FnHolesAnywhere.j5]
  repeat' (first | (with_reducible first | exact Lim.const _ | exact impl_HoleOf.F_lim _ | exact impl_IsExtended.F_lim _ | exact impl_SkolemOfExtended.F_lim _ | exact laws_FnHolesAnywhere.J6_lim _ _ _ _ | exact laws_jSame.F_lim _ _ | exact spec_DrawSkolemOfExtended.F_lim _ | exact spec_HoleOf.F_lim _ | exact spec_IsExtended.F_lim _ | exact spec_SkolemOfExtended.F_lim _ | refine Lim.ite ?_ ?_ | refine Lim.bind ?_ (fun _ => ?_))))
theorem laws_FnHolesAnywhere.J6_eq (x37 : List Int) (x38 : List Int) (x39 : Bool) (x406 : Bool) : laws_FnHolesAnywhere.J6 x37 x38 x39 x406 = (if x406 = true then (some false) else (if x39 = true then ((impl_IsSkolem.F x38).bind fun bt1578 => ((impl_TrimRow.F x37).bind fun bt1580 => (if bt1578.2 = true then (if bt1578.1 = true then (if bt1580.2 = true then ((laws_jSame.F bt1580.1 x38).bind fun t1584 => (some t1584)) else (some false)) else (some false)) else (some false)))) else (some true))) :=
 Lim.step (f := fun k => laws_FnHolesAnywhere.j6 (k + 1) x37 x38 x39 x406) (laws_FnHolesAnywhere.J6_lim x37 x38 x39 x406) (fun _ => rfl) (by
  simp only [laws_FnHolesAnywhere.j6]
  repeat' (first | (with_reducible first | exact Lim.const _ | exact impl_IsSkolem.F_lim _ | exact impl_TrimRow.F_lim _ | exact laws_jSame.F_lim _ _ | refine Lim.ite ?_ ?_ | refine Lim.bind ?_ (fun _ => ?_))))
theorem laws_FnHolesAnywhere.J1_eq (x1 : List Int) (x5 : Int) (x6 : Int) (x7 : List (List Int)) (x11 : Int) (x200 : Bool) : laws_FnHolesAnywhere.J1 x1 x5 x6 x7 x11 x200 = (if x200 = true then (some false) else (laws_FnHolesAnywhere.L0 x1 x5 x6 x7 x11 x7 (x7.length : Int) 0)) :=
 Lim.step (f := fun k => laws_FnHolesAnywhere.j1 (k + 1) x1 x5 x6 x7 x11 x200) (laws_FnHolesAnywhere.J1_lim x1 x5 x6 x7 x11 x200) (fun _ => rfl) (by
  simp only [laws_FnHolesAnywhere.j1]
  repeat' (first | (with_reducible first | exact Lim.const _ | exact laws_FnHolesAnywhere.L0_lim _ _ _ _ _ _ _ _ | refine Lim.ite ?_ ?_ | refine Lim.bind ?_ (fun _ => ?_))))
theorem laws_FnHolesAnywhere.L0_eq (x1 : List Int) (x5 : Int) (x6 : Int) (x7 : List (List Int)) (x11 : Int) (x201 : List (List Int)) (x202 : Int) (x203 : Int) : laws_FnHolesAnywhere.L0 x1 x5 x6 x7 x11 x201 x202 x203 = (if x203 < x202 then (if 0 ≤ x203 then (if x203 < (x201.length : Int) then ((impl_IsExtended.F (rd_L2 x201 x203)).bind fun bt1286 => ((impl_HoleOf.F (rd_L2 x201 x203)).bind fun bt1288 => ((impl_BackRow.F (rd_L2 x201 x203)).bind fun bt1290 => ((impl_HoleOf.F bt1290.1).bind fun bt1294 => (if bt1286.2 = true then (if bt1286.1 = true then (if bt1288.2 = true then (if bt1288.1 = x6 then (if bt1290.2 = true then (if bt1294.2 = true then (if bt1294.1 = (wrap64 ((wrap64 (2 * x5)) - x6)) then (if x203 > 0 then (if 0 ≤ (wrap64 (x203 - 1)) then (if (wrap64 (x203 - 1)) < (x7.length : Int) then ((laws_jLess.F (rd_L2 x7 (wrap64 (x203 - 1))) (rd_L2 x201 x203)).bind fun t1297 => (if t1297 = true then (laws_FnHolesAnywhere.L0 x1 x5 x6 x7 x11 x201 x202 (wrap64 (x203 + 1))) else (some false))) else (none)) else (none)) else (laws_FnHolesAnywhere.L0 x1 x5 x6 x7 x11 x201 x202 (wrap64 (x203 + 1)))) else (some false)) else (some false)) else (some false)) else (some false)) else (some false)) else (some false)) else (some false)))))) else (none)) else (none)) else (if x6 = (wrap64 (2 * x5)) then (laws_FnHolesAnywhere.J3 x1 x5 x6 x11 true) else (laws_FnHolesAnywhere.J3 x1 x5 x6 x11 (x6 == 0)))) :=
 Lim.step (f := fun k => laws_FnHolesAnywhere.l0 (k + 1) x1 x5 x6 x7 x11 x201 x202 x203) (laws_FnHolesAnywhere.L0_lim x1 x5 x6 x7 x11 x201 x202 x203) (fun _ => rfl) (by
  simp only [laws_FnHolesAnywhere.l0]
  repeat' (first | (with_reducible first | exact Lim.const _ | exact impl_BackRow.F_lim _ | exact impl_HoleOf.F_lim _ | exact impl_IsExtended.F_lim _ | exact laws_FnHolesAnywhere.J3_lim _ _ _ _ _ | exact laws_FnHolesAnywhere.L0_lim _ _ _ _ _ _ _ _ | exact laws_jLess.F_lim _ _ | refine Lim.ite ?_ ?_ | refine Lim.bind ?_ (fun _ => ?_))))
theorem laws_FnHolesAnywhere.J3_eq (x1 : List Int) (x5 : Int) (x6 : Int) (x11 : Int) (x281 : Bool) : laws_FnHolesAnywhere.J3 x1 x5 x6 x11 x281 = (if x281 = true then ((impl_CountSkolem.f x5).bind fun bt1304 => (if bt1304.2 = true then (if bt1304.1 = x11 then (laws_FnHolesAnywhere.J4 x1 x5 x6 x11) else (some false)) else (some false))) else (laws_FnHolesAnywhere.J4 x1 x5 x6 x11)) :=
 Lim.step (f := fun k => laws_FnHolesAnywhere.j3 (k + 1) x1 x5 x6 x11 x281) (laws_FnHolesAnywhere.J3_lim x1 x5 x6 x11 x281) (fun _ => rfl) (by
  simp only [laws_FnHolesAnywhere.j3]
  repeat' (first | (with_reducible first | exact Lim.const _ | exact laws_FnHolesAnywhere.J4_lim _ _ _ _ | refine Lim.ite ?_ ?_ | refine Lim.bind ?_ (fun _ => ?_))))
theorem laws_FnHolesAnywhere.J4_eq (x1 : List Int) (x5 : Int) (x6 : Int) (x11 : Int) : laws_FnHolesAnywhere.J4 x1 x5 x6 x11 = (if x6 = (wrap64 ((wrap64 (2 * x5)) - 1)) then ((impl_CountHooked.f x5).bind fun bt1306 => (if bt1306.2 = true then (if bt1306.1 = x11 then (laws_FnHolesAnywhere.J5 x1) else (some false)) else (some false))) else (laws_FnHolesAnywhere.J5 x1)) :=
 Lim.step (f := fun k => laws_FnHolesAnywhere.j4 (k + 1) x1 x5 x6 x11) (laws_FnHolesAnywhere.J4_lim x1 x5 x6 x11) (fun _ => rfl) (by
  simp only [laws_FnHolesAnywhere.j4]
  repeat' (first | (with_reducible first | exact Lim.const _ | exact laws_FnHolesAnywhere.J5_lim _ | refine Lim.ite ?_ ?_ | refine Lim.bind ?_ (fun _ => ?_))))
theorem laws_FnHolesAnywhere.F_eq (l0 : List Int) (l1 : List Int) : laws_FnHolesAnywhere.F l0 l1 = ((laws_big.f l0 l1).bind fun t1254 => (if t1254 = true then (some true) else ((spec_DrawAllExtended.f l0).bind fun bt1255 => ((impl_AllExtended.f bt1255.1 bt1255.2).bind fun bt1257 => ((spec_AllExtended.f bt1255.1 bt1255.2).bind fun bt1261 => ((impl_CountExtended.f bt1255.1 bt1255.2).bind fun bt1265 => ((spec_CountExtended.f bt1255.1 bt1255.2).bind fun bt1267 => ((impl_FirstExtended.f bt1255.1 bt1255.2).bind fun bt1269 => ((spec_FirstExtended.f bt1255.1 bt1255.2).bind fun bt1273 => ((impl_IsExtendedThere.f bt1255.1 bt1255.2).bind fun bt1277 => (if (bt1257.2 != bt1261.2) = true then (laws_FnHolesAnywhere.J0 l1 bt1255.1 bt1255.2 bt1257.1 bt1257.2 bt1265.1 bt1269.1 true) else ((laws_jRows.F bt1257.1 bt1261.1).bind fun t1279 => (if t1279 = true then (if (bt1265.2 != bt1267.2) = true then (laws_FnHolesAnywhere.J0 l1 bt1255.1 bt1255.2 bt1257.1 bt1257.2 bt1265.1 bt1269.1 true) else (if bt1265.1 = bt1267.1 then (if (bt1269.2 != bt1273.2) = true then (laws_FnHolesAnywhere.J0 l1 bt1255.1 bt1255.2 bt1257.1 bt1257.2 bt1265.1 bt1269.1 true) else ((laws_jSame.F bt1269.1 bt1273.1).bind fun t1280 => (if t1280 = true then (if (bt1265.2 != bt1257.2) = true then (laws_FnHolesAnywhere.J0 l1 bt1255.1 bt1255.2 bt1257.1 bt1257.2 bt1265.1 bt1269.1 true) else (if bt1257.2 = true then (if (bt1269.2 != (decide (bt1265.1 > 0))) = true then (laws_FnHolesAnywhere.J0 l1 bt1255.1 bt1255.2 bt1257.1 bt1257.2 bt1265.1 bt1269.1 true) else (if bt1277.2 = true then (laws_FnHolesAnywhere.J0 l1 bt1255.1 bt1255.2 bt1257.1 bt1257.2 bt1265.1 bt1269.1 (bt1277.1 != (decide (bt1265.1 > 0)))) else (laws_FnHolesAnywhere.J0 l1 bt1255.1 bt1255.2 bt1257.1 bt1257.2 bt1265.1 bt1269.1 true))) else (if (bt1269.2 != false) = true then (laws_FnHolesAnywhere.J0 l1 bt1255.1 bt1255.2 bt1257.1 bt1257.2 bt1265.1 bt1269.1 true) else (laws_FnHolesAnywhere.J0 l1 bt1255.1 bt1255.2 bt1257.1 bt1257.2 bt1265.1 bt1269.1 false)))) else (laws_FnHolesAnywhere.J0 l1 bt1255.1 bt1255.2 bt1257.1 bt1257.2 bt1265.1 bt1269.1 true)))) else (laws_FnHolesAnywhere.J0 l1 bt1255.1 bt1255.2 bt1257.1 bt1257.2 bt1265.1 bt1269.1 true))) else (laws_FnHolesAnywhere.J0 l1 bt1255.1 bt1255.2 bt1257.1 bt1257.2 bt1265.1 bt1269.1 true)))))))))))))) :=
 Lim.unique (laws_FnHolesAnywhere.F_lim l0 l1) (by
  unfold laws_FnHolesAnywhere.f
  repeat' (first | (with_reducible first | exact Lim.const _ | exact laws_FnHolesAnywhere.J0_lim _ _ _ _ _ _ _ _ | exact laws_jRows.F_lim _ _ | exact laws_jSame.F_lim _ _ | refine Lim.ite ?_ ?_ | refine Lim.bind ?_ (fun _ => ?_))))

end Go.Proofs.Ytaohgllnoomaeaa.Fn
