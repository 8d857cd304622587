/- The machine's side and plain lemmas for FnCombsAndRings: texts of this session, merged by its program (part 4). -/
import Derived.Laws.CopyOwn
import Derived.Laws.Rows
import Derived.Test.YtapffhnkfgkboaaMFnCombsAndRings0
import Derived.Test.YtapffhnkfgkboaaMFnCombsAndRings1
import Derived.Test.YtapffhnkfgkboaaMFnCombsAndRings2
import Derived.Test.YtapffhnkfgkboaaMFnCombsAndRings3
set_option maxHeartbeats 80000000
set_option maxRecDepth 100000
namespace Go.Proofs.Ytapffhnkfgkboaa.Fn
open Go.RowKit Go.Proofs.YtapffhnkfgkboaaW.PrintWords Go.Proofs.YtapffhnkfgkboaaW.PrintLast Go.Proofs.YtapffhnkfgkboaaW.PrintMore
attribute [local go_sem] max2_int min2_int max_two min_two max_three min_three max_four min_four
set_option linter.unusedVariables false
set_option linter.unusedSimpArgs false
def Zcd.f (k : Nat) (l0 : List Int) : Option (Bool) := (Zbf.f k l0).bind fun t1 => (if t1 = true then (some (pairsOk l0)) else (some false))
theorem Zcd.mono : ∀ a0 k, LeO (Zcd.f k a0) (Zcd.f (k + 1) a0) := by
 intro a0 k
 unfold Zcd.f
 refine LeO.bind (Zbf.mono _ _) (fun _ => LeO.refl _)
theorem Zbf.l0_row (l : List Int) : ∀ (k : Nat) (n : Nat) (i : Int), 0 ≤ i → (l.length : Int) - i ≤ n → l.length ≤ 9223372036854775807 → Zbf.l0 k l l (l.length : Int) i = some true → l.length ≤ 40 ∧ ∀ j : Nat, i ≤ (j : Int) → j < l.length → 0 ≤ rd l j ∧ rd l j ≤ 20
 | 0, n, i, h0, hn, hl, h => by simp [Zbf.l0] at h
 | k + 1, n, i, h0, hn, hl, h => by
  rw [Zbf.l0] at h
  by_cases h1 : i < (l.length : Int)
  rotate_left
  ·rw [if_neg h1] at h
   have := of_decide_eq_true (Option.some.inj h)
   exact ⟨by omega, fun j hj hjl => by omega⟩
  rw [if_pos h1, if_pos h0, if_pos h1] at h
  by_cases h2 : rd l i < 0
  ·rw [if_pos h2] at h
   simp at h
  rw [if_neg h2] at h
  by_cases h3 : rd l i > 20
  ·rw [if_pos h3] at h
   simp at h
  rw [if_neg h3, wrap_in (n := i + 1) (by omega) (by omega)] at h
  obtain ⟨g1, g2⟩ := Zbf.l0_row l k (n - 1) (i + 1) (by omega) (by omega) hl h
  refine ⟨g1, fun j hj hjl => ?_⟩
  by_cases e : (j : Int) = i
  ·rw [e]
   omega
  ·exact g2 j (by omega) hjl
theorem Zbf.f_row (k : Nat) (l : List Int) (hl : l.length ≤ 9223372036854775807) (h : Zbf.f k l = some true) : l.length ≤ 40 ∧ ∀ x ∈ l, 0 ≤ x ∧ x ≤ 20 := by
 obtain ⟨g1, g2⟩ := Zbf.l0_row l k l.length 0 (by omega) (by omega) hl h
 refine ⟨g1, fun x hx => ?_⟩
 obtain ⟨j, hj, rfl⟩ := List.getElem_of_mem hx
 have := g2 j (by omega) hj
 rwa [rd_nat l j hj] at this
theorem arr21_oneCell {w : World} {B : Nat} {V : Nat → Value} {L : Nat → List Int} (h : ∀ k, k < 21 → Kd.R (Kd.int .i64) 3 w B (fun _ => True) (V k) (L k)) : (arr21 V).all (·.oneCell') = true := by
 rw [Array.all_eq_true_iff_forall_mem]
 intro x hx
 simp only [arr21, List.mem_toArray, List.mem_map, List.mem_range] at hx
 obtain ⟨q, hq, rfl⟩ := hx
 exact own_oneCell (h q hq)
theorem cells_max {w : World} {A : Option Addr} {n : Nat} {l : List Int} (h : Kd.C (Kd.int .i64) w A n l) : l.length ≤ 9223372036854775807 := by
 have h1 := Kd.C_len h
 have h2 := Kd.C_max h
 omega
theorem Zcd.calls (k : Nat) (A0 : Option Addr) (c0 : Nat) (l0 : List Int) (r : Bool) (w : World) (hr0 : Kd.C (Kd.int .i64) w A0 l0.length l0) (hc0 : l0.length ≤ c0) (h : Zcd.f k l0 = some r) :
  Calls Try.prog 83 #[.slice A0 l0.length c0] w fun e w' => e = .returned (.bool r) ∧ Below w.heap.size w w' := by
 have HR0 := Aside0.mk hr0
 have HC0 := Aside0.mk hc0
 obtain ⟨t1, hA, h⟩ := Option.bind_eq_some_iff.1 h
 have A1 := Aside0.mk hA
 cases t1 with
 | false =>
  rw [if_neg (by decide)] at h
  obtain rfl := Option.some.inj h
  clear hr0 hc0 hA h
  go_enter Try.func83, Try.ntmps83
  go_wp2_with (first | (go_at_call 88; refine (Zbf.calls k _ _ l0 false _ HR0.out HC0.out A1.out).mono ?_; rintro e w' ⟨rfl, ⟨nd, rfl⟩⟩))
  go_ret
  exact ⟨rfl, pw_below_drewN (Below.refl _ _) _⟩
 | true =>
  rw [if_pos rfl] at h
  obtain rfl := Option.some.inj h
  have HROW := Aside0.mk (show l0.length ≤ 40 ∧ ∀ x ∈ l0, 0 ≤ x ∧ x ≤ 20 from Zbf.f_row k l0 (cells_max hr0) hA)
  clear hr0 hc0 hA h
  have hu := Try.underlying56
  go_enter Try.func83, Try.ntmps83
  go_wp2_with (first | (go_at_call 88; refine (Zbf.calls k _ _ l0 true _ HR0.out HC0.out A1.out).mono ?_; rintro e w' ⟨rfl, ⟨nd, rfl⟩⟩) | (go_at_call 56; refine (Zdd.calls _ _ l0 _ (Kd.C_drewN HR0.out nd) HROW.out.1 HROW.out.2).mono ?_; rintro e w1 ⟨V, rfl, hV, hB⟩; have HV := Aside0.mk hV; have HALL := Aside0.mk (arr21_oneCell hV); have HB := Aside0.mk hB; clear hV hB) | ((with_reducible refine gate_store (t := 56) (p := 3) rfl ?_); refine wpList_store_row rfl 56 (.tmp 3) (.tmp 11) rfl w1.heap.size (arr21 V) rfl rfl 56 _ (heap_alloc_new _ _) (by rw [arr21_size]; kernel_rfl) (by rw [arr21_size]; rfl) HALL.out ?_))
  go_ret
  exact ⟨rfl, below_setRow (below_alloc (below_step (pw_below_drewN (Below.refl _ _) _) HB.out) _) (below_size (below_step (pw_below_drewN (Below.refl _ _) nd) HB.out)) _⟩
noncomputable def Zcd.F (l0 : List Int) : Option (Bool) := lim fun k => Zcd.f k l0
theorem Zcd.F_lim (l0 : List Int) : Lim (fun k => Zcd.f k l0) (Zcd.F l0) := Lim.of fun k => Zcd.mono l0 k
theorem Zcd.F_eq (l0 : List Int) : Zcd.F l0 = ((Zbf.F l0).bind fun t1 => (if t1 = true then (some (pairsOk l0)) else (some false))) :=
 Lim.unique (Zcd.F_lim l0) (by
  unfold Zcd.f
  repeat' first
  | (with_reducible exact Lim.const _)
  | (with_reducible exact Zbf.F_lim _)
  | (with_reducible refine Lim.ite ?_ ?_)
  | (with_reducible refine Lim.bind ?_ (fun _ => ?_)))
def fitsAt (l : List Int) (s : Int) : Bool := (List.range 21).all fun n => !((atOf l n).length == 2 && (wrap64 (rd (atOf l n) 1 - rd (atOf l n) 0) != wrap64 ((n : Int) + s)))
def Zcn.f (k : Nat) (l0 : List Int) (a1 : Int) : Option (Bool) := (Zcd.f k l0).bind fun t1 => (if t1 = true then (some (fitsAt l0 a1)) else (some false))
theorem Zcn.mono : ∀ a0 a1 k, LeO (Zcn.f k a0 a1) (Zcn.f (k + 1) a0 a1) := by
 intro a0 a1 k
 unfold Zcn.f
 refine LeO.bind (Zcd.mono _ _) (fun _ => LeO.refl _)
theorem Zcd.f_row (k : Nat) (l : List Int) (hl : l.length ≤ 9223372036854775807) (h : Zcd.f k l = some true) : l.length ≤ 40 ∧ ∀ x ∈ l, 0 ≤ x ∧ x ≤ 20 := by
 obtain ⟨t1, hA, h⟩ := Option.bind_eq_some_iff.1 h
 cases t1 with
 | false => rw [if_neg (by decide)] at h; simp at h
 | true => exact Zbf.f_row k l hl hA
theorem arr21_R_setRow {B : Nat} {w : World} {v : Value} {l : List Int} (h : Kd.R (Kd.int .i64) 3 w B (fun _ => True) v l) (o : Obj) (cs : Array Value) : Kd.R (Kd.int .i64) 3 ((w.alloc o).setRow w.heap.size cs) B (fun _ => True) v l :=
 Kd.R_mono (Kd.R_step (Kd.R_bound h) (fun b hb _ => by rw [setRow_other _ _ _ _ (by have := hb.2.2.1; omega), Below.heap_alloc _ _ _ hb.2.2.1])) (fun _ hb => hb.1)
theorem Zcn.calls (k : Nat) (A0 : Option Addr) (c0 : Nat) (l0 : List Int) (a1 : Int) (r : Bool) (w : World) (hr0 : Kd.C (Kd.int .i64) w A0 l0.length l0) (hc0 : l0.length ≤ c0) (h : Zcn.f k l0 a1 = some r) :
  Calls Try.prog 71 #[.slice A0 l0.length c0, .int .i64 a1] w fun e w' => e = .returned (.bool r) ∧ Below w.heap.size w w' := by
 have HR0 := Aside0.mk hr0
 have HC0 := Aside0.mk hc0
 obtain ⟨t1, hA, h⟩ := Option.bind_eq_some_iff.1 h
 have A1 := Aside0.mk hA
 cases t1 with
 | false =>
  rw [if_neg (by decide)] at h
  obtain rfl := Option.some.inj h
  clear hr0 hc0 hA h
  go_enter Try.func71, Try.ntmps71
  go_wp2_with (first | (go_at_call 83; refine (Zcd.calls k _ _ l0 false _ HR0.out HC0.out A1.out).mono ?_; rintro e w0 ⟨rfl, hB⟩; have HB := Aside0.mk hB; clear hB))
  go_ret
  exact ⟨rfl, HB.out⟩
 | true =>
  rw [if_pos rfl] at h
  obtain rfl := Option.some.inj h
  have HROW := Aside0.mk (Zcd.f_row k l0 (cells_max hr0) hA)
  clear hr0 hc0 hA h
  have hu := Try.underlying56
  go_enter Try.func71, Try.ntmps71
  go_wp2_with (first | (go_at_call 83; refine (Zcd.calls k _ _ l0 true _ HR0.out HC0.out A1.out).mono ?_; rintro e w0 ⟨rfl, hB⟩; have HB0 := Aside0.mk hB; clear hB) | (go_at_call 56; refine (Zdd.calls _ _ l0 _ (Kd.C_below HR0.out HB0.out) HROW.out.1 HROW.out.2).mono ?_; rintro e w1 ⟨V, rfl, hV, hB⟩; have HV := Aside0.mk hV; have HALL := Aside0.mk (arr21_oneCell hV); have HB := Aside0.mk (below_step HB0.out hB); clear hV hB) | ((with_reducible refine gate_store (t := 56) (p := 5) rfl ?_); refine wpList_store_row rfl 56 (.tmp 5) (.tmp 15) rfl w1.heap.size (arr21 V) rfl rfl 56 _ (heap_alloc_new _ _) (by rw [arr21_size]; kernel_rfl) (by rw [arr21_size]; rfl) HALL.out ?_) | ((with_reducible refine gate_dst (N := 17) rfl ?_); refine wpList_load_row rfl 56 (.tmp 5) rfl w1.heap.size rfl 56 (arr21 V) (0, 0) _ (setRow_heap _ _ _ _ _ _ (heap_alloc_new _ _)) hu rfl (by rw [arr21_size]; kernel_rfl) ?_))
  have hW1 := below_setRow (below_alloc HB.out (.cells #[.slice none 0 0, .slice none 0 0, .slice none 0 0, .slice none 0 0, .slice none 0 0, .slice none 0 0, .slice none 0 0, .slice none 0 0, .slice none 0 0, .slice none 0 0, .slice none 0 0, .slice none 0 0, .slice none 0 0, .slice none 0 0, .slice none 0 0, .slice none 0 0, .slice none 0 0, .slice none 0 0, .slice none 0 0, .slice none 0 0, .slice none 0 0] 56)) (below_size HB.out) (arr21 V)
  have hW2 := fun k hk => arr21_R_setRow (HV.out k hk) (.cells #[.slice none 0 0, .slice none 0 0, .slice none 0 0, .slice none 0 0, .slice none 0 0, .slice none 0 0, .slice none 0 0, .slice none 0 0, .slice none 0 0, .slice none 0 0, .slice none 0 0, .slice none 0 0, .slice none 0 0, .slice none 0 0, .slice none 0 0, .slice none 0 0, .slice none 0 0, .slice none 0 0, .slice none 0 0, .slice none 0 0, .slice none 0 0] 56) (arr21 V)
  generalize World.setRow _ w1.heap.size (arr21 V) = W at hW1 hW2 ⊢
  have HW1 := Aside0.mk hW1
  have HW2 := Aside0.mk hW2
  clear hW1 hW2 HV HB HALL
  go_loopw [18] (fun i wr => ∃ j : Nat, j ≤ 21 ∧ i = .int .i64 j ∧ Aside0 (Drawn0 W wr) ∧ Aside0 (∀ q, q < j → (!((atOf l0 q).length == 2 && (wrap64 (rd (atOf l0 q) 1 - rd (atOf l0 q) 0) != wrap64 ((q : Int) + a1)))) = true)) (fun i _ => 21 - (intOf i).toNat)
  case atStart => exact ⟨0, by omega, rfl, ⟨Drawn0.refl _⟩, ⟨fun q hq => by omega⟩⟩
  case round =>
   obtain ⟨j, hj, rfl, HD, HQ⟩ := hrel
   obtain ⟨⟨nd2, rfl⟩⟩ := HD
   by_cases hlt : j < 21
   rotate_left
   ·have HYES := Aside0.mk (show fitsAt l0 a1 = true from by
     unfold fitsAt
     rw [List.all_eq_true]
     intro q hq
     exact HQ.out q (by have := List.mem_range.1 hq; omega))
    go_wp2_with fail
    go_ret
    exact ⟨by rw [HYES.out]; rfl, by repeat (first | exact HW1.out | apply pw_below_drewN)⟩
   by_cases h2 : (atOf l0 j).length = 2
   ·obtain ⟨g, cap, hv, _, hg, cells, hh⟩ := Kd.R_form (HW2.out j hlt) (by omega)
    have hR := HW2.out j hlt
    have hix := fun U => run_index_arr21 U V j hlt (own_oneCell hR)
    rw [hv] at hR
    rw [hv, h2] at hix
    have hx0 := (Kd.R_celln 0 hR 0 (by omega) (by omega)).1
    have hx1 := (Kd.R_celln 0 hR 1 (by omega) (by omega)).1
    have b2 : ((2 : Int) == 2) = true := rfl
    generalize e0 : rd (atOf l0 j) 0 = x0
    generalize e1 : rd (atOf l0 j) 1 = x1
    replace hx0 : W.cell? ⟨g, 0, none⟩ = some (.int .i64 x0) := by rw [← e0]; exact hx0
    replace hx1 : W.cell? ⟨g, 1, none⟩ = some (.int .i64 x1) := by rw [← e1]; exact hx1
    have H2 := Aside0.mk h2
    have E0 := Aside0.mk e0
    have E1 := Aside0.mk e1
    clear hR hv hh hg h2 e0 e1
    by_cases hne : wrap64 (x1 - x0) = wrap64 ((j : Int) + a1)
    rotate_left
    ·have b3 : (wrap64 (x1 - x0) != wrap64 ((j : Int) + a1)) = true := bne_iff_ne.mpr hne
     clear hne
     have HNO := Aside0.mk (show fitsAt l0 a1 = false from by
      unfold fitsAt
      rw [List.all_eq_false]
      exact ⟨j, List.mem_range.2 hlt, by rw [E0.out, E1.out, b3, H2.out]; decide⟩)
     go_wp2_with fail
     go_quiet (fail)
     go_wp2_with fail
     go_ret
     exact ⟨by rw [HNO.out]; rfl, by repeat (first | exact HW1.out | apply pw_below_drewN)⟩
    have b3 : (wrap64 (x1 - x0) != wrap64 ((j : Int) + a1)) = false := bne_eq_false_iff_eq.mpr hne
    clear hne
    have B3 := Aside0.mk b3
    go_wp2_with fail
    go_quiet (fail)
    go_wp2_with fail
    go_roundw
    case rel => exact ⟨j + 1, by omega, by go_num, by (first | exact ⟨⟨⟨_, rfl⟩⟩⟩ | exact ⟨⟨⟨_, World.drewN_drewN ..⟩⟩⟩), ⟨fun q hq => by
     by_cases e : q = j
     ·subst e
      rw [E0.out, E1.out, B3.out, Bool.and_false]
      rfl
     ·exact HQ.out q (by omega)⟩⟩
    case measure => simp [intOf]; omega
   ·obtain ⟨A, cap, hv⟩ := Kd.R_slice (HW2.out j hlt)
    have hix := fun U => run_index_arr21 U V j hlt (own_oneCell (HW2.out j hlt))
    rw [hv] at hix
    have b2 : (((atOf l0 j).length : Int) == 2) = false := by rw [beq_eq_false_iff_ne]; omega
    have B2 := Aside0.mk (show ((atOf l0 j).length == 2) = false from by rw [beq_eq_false_iff_ne]; exact h2)
    clear h2 hv
    go_wp2_with fail
    go_quiet (fail)
    go_wp2_with fail
    go_roundw
    case rel => exact ⟨j + 1, by omega, by go_num, by (first | exact ⟨⟨⟨_, rfl⟩⟩⟩ | exact ⟨⟨⟨_, World.drewN_drewN ..⟩⟩⟩), ⟨fun q hq => by
     by_cases e : q = j
     ·subst e
      rw [B2.out, Bool.false_and]
      rfl
     ·exact HQ.out q (by omega)⟩⟩
    case measure => simp [intOf]; omega
noncomputable def Zcn.F (l0 : List Int) (a1 : Int) : Option (Bool) := lim fun k => Zcn.f k l0 a1
theorem Zcn.F_lim (l0 : List Int) (a1 : Int) : Lim (fun k => Zcn.f k l0 a1) (Zcn.F l0 a1) := Lim.of fun k => Zcn.mono l0 a1 k
theorem Zcn.F_eq (l0 : List Int) (a1 : Int) : Zcn.F l0 a1 = ((Zcd.F l0).bind fun t1 => (if t1 = true then (some (fitsAt l0 a1)) else (some false))) :=
 Lim.unique (Zcn.F_lim l0 a1) (by
  unfold Zcn.f
  repeat' first
  | (with_reducible exact Lim.const _)
  | (with_reducible exact Zcd.F_lim _)
  | (with_reducible refine Lim.ite ?_ ?_)
  | (with_reducible refine Lim.bind ?_ (fun _ => ?_)))
def Zai.l0 : Nat → Int → List Int → List Int → Int → Int → Option (List Int)
 | 0, _, _, _, _, _ => none
 | k + 1, x1, x5, x8, x9, x10 => if x10 < x9 then (if 0 ≤ x10 then (if x10 < (x8.length : Int) then (if (rd x8 x10) = x1 then (if x5.length < 17592186044416 then (Zai.l0 k x1 (x5 ++ [x10]) x8 x9 (wrap64 (x10 + 1))) else (none)) else (Zai.l0 k x1 x5 x8 x9 (wrap64 (x10 + 1)))) else (none)) else (none)) else (some x5)
def Zai.f (k : Nat) (l0 : List Int) (a1 : Int) : Option (List Int) := Zai.l0 k a1 ([] : List Int) l0 (l0.length : Int) 0
theorem Zai.mono_l : ∀ k, (∀ y0 y1 y2 y3 y4, LeO (Zai.l0 k y0 y1 y2 y3 y4) (Zai.l0 (k + 1) y0 y1 y2 y3 y4))
 | 0 => fun _ _ _ _ _ r h => by simp [Zai.l0] at h
 | k + 1 => by
  have ih0 := Zai.mono_l k
  ·intro y0 y1 y2 y3 y4
   unfold Zai.l0
   repeat' (first | (with_reducible first | exact ih0 _ _ _ _ _ | exact LeO.refl _ | exact LeO.none _ | refine LeO.ite ?_ ?_ | refine LeO.bind ?_ (fun _ => ?_)) | exact ih0 _ _ _ _ _ | exact LeO.none _ | refine LeO.ite ?_ ?_ | refine LeO.bind ?_ (fun _ => ?_))
theorem Zai.mono : ∀ a0 a1 k, LeO (Zai.f k a0 a1) (Zai.f (k + 1) a0 a1) := by
 intro a0 a1 k
 have ih0 := Zai.mono_l k
 unfold Zai.f
 repeat' (first | (with_reducible first | exact ih0 _ _ _ _ _ | exact LeO.refl _ | exact LeO.none _ | refine LeO.ite ?_ ?_ | refine LeO.bind ?_ (fun _ => ?_)) | exact ih0 _ _ _ _ _ | exact LeO.none _ | refine LeO.ite ?_ ?_ | refine LeO.bind ?_ (fun _ => ?_))
theorem Zai.calls (k : Nat) (A0 : Option Addr) (c0 : Nat) (l0 : List Int) (a1 : Int) (r : List Int) (w : World) (hr0 : Kd.C (Kd.int .i64) w A0 l0.length l0) (hc0 : l0.length ≤ c0) (h : Zai.f k l0 a1 = some r) :
  Calls Try.prog 59 #[.slice A0 l0.length c0, .int .i64 a1] w fun e w' => ∃ v0_ : Value, e = .returned (v0_) ∧ Kd.R (Kd.int .i64) 3 w' w.heap.size (fun _ => True) v0_ r ∧ Below w.heap.size w w' := by
 have HR0 := Aside0.mk hr0
 have HC0 := Aside0.mk hc0
 clear hr0 hc0
 have HB := Aside0.mk (Below.refl w.heap.size w)
 have H := h
 unfold Zai.f at H
 clear h
 have H' := Aside0.mk H
 clear H
 go_enter Try.func59, Try.ntmps59
 go_wp2
 go_loopg [5, 10] k (fun kq v5 v10 w' => ∃ (x5_1 : List Int) (x10_1 : Int), v10 = .int .i64 x10_1 ∧ Aside0 (Zai.l0 kq a1 x5_1 l0 (l0.length : Int) x10_1 = some r) ∧ Aside0 (kq ≤ k) ∧ Aside0 (Kd.R (Kd.int .i64) 3 w' w.heap.size (fun _ => True) v5 x5_1) ∧ Aside0 (Below w.heap.size w w'))
 case atStart => exact ⟨(([] : List Int)), (0), eqd, H', ⟨Nat.le_refl _⟩, ⟨by first | exact Kd.R_nil _ _ _ _ _ | exact Kd.N_nil _ _ _ _ _ | exact Kd.V_nil _ _ _ _ _ | exact Kd.Q_nil _ _ _ _ _ | exact Kd.S_nil _ _ _ _ _⟩, ⟨atB HB⟩⟩
 case round =>
  clear H'
  obtain ⟨x5_1, x10_1, rfl, HA, HK1, HO_5, HB⟩ := hrel
  cases gk with
  | zero => exact absurd HA.out (by simp [Zai.l0])
  | succ k1 =>
   have H := HA.out
   clear HA
   simp only [Zai.l0] at H
   by_cases c3 : x10_1 < (l0.length : Int)
   rotate_left
   ·rw [if_neg c3] at H
    have c3b0 := decide_eq_false c3
    clear c3
    obtain rfl := Option.some.inj H
    go_wp2
    go_ret
    exact ⟨_, eqr, atR HO_5, atB HB⟩
   rw [if_pos c3] at H
   have c3b0 := decide_eq_true c3
   clear c3
   obtain ⟨c4b0, H⟩ := in_ H
   obtain ⟨c5b0, H⟩ := in_ H
   by_cases c6 : (rd l0 x10_1) = a1
   ·rw [if_pos c6] at H
    have c6b0 : ((rd l0 x10_1) == a1) = true := beq_iff_eq.mpr c6
    have c6b1 : ((rd l0 x10_1) != a1) = false := bne_eq_false_iff_eq.mpr c6
    clear c6
    obtain ⟨c7, H⟩ := in0_ H
    have LMc7 := Aside0.mk c7
    clear c7
    obtain ⟨y595, hy595⟩ : ∃ y_ : List Int, y_ = (x5_1 ++ [x10_1]) := ⟨_, rfl⟩
    replace H : (Zai.l0 k1 a1 y595 l0 (l0.length : Int) (wrap64 (x10_1 + 1))) = some r := by first | (rw [hy595]; with_reducible exact H) | (have H2_ := (Option.bind_some _ _).symm.trans H; rw [hy595]; with_reducible exact H2_) | (have H2_ := (Option.bind_some _ _).symm.trans H; with_reducible exact H2_) | with_reducible exact H | (rw [hy595]; exact H) | exact H
    have Ny595 := Aside0.mk hy595
    clear hy595
    have H' := Aside0.mk H
    clear H
    have p594 : 0 ≤ (x10_1 : Int) := ofd
    have q594 : x10_1 < (l0.length : Int) := ofd
    obtain ⟨ad594, e594, hx594_0⟩ := Kd.at_int HR0.out x10_1 p594 q594
    cases e594
    (try replace hx594_0 := (HB.out.cell (World.block_lt_of_cell? w _ hx594_0)).trans hx594_0)
    replace p594 := eq_true p594
    replace q594 := eq_true q594
    go_wp2_with (first | ((with_reducible refine gate_builtin (b := .append) (xs := #[.tmp 18, .tmp 20]) rfl ?_); at_builtin; refine Kd.R_append (Kd.int .i64) (w0 := w) w.heap.size rfl (.tmp 18) (.tmp 20) 24 3 (.int .i64 0) 8 rfl Try.underlying24 info3 rfl (by decide) (by omega) u5 x5_1 x10_1 [.int .i64 x10_1] (fun _ => True) (fun _ => False) rfl rfl ?aP (fun _ hk => hk.elim) ?aF ?aO ?aB ?aS ?aL ?_; (case aP => exact rfl); (case aB => exact (atB HB)); (case aF => exact (fun _ _ => trivial)); (case aO => exact (atR HO_5)); (case aS => exact (szB HB)); (case aL => have := LMc7.out; omega); intro v596 w8 ho hb hg hat; rw [← Ny595.out] at ho; have HO597 := Aside0.mk (ho); replace HB := Aside0.mk (hb); clear HO_5; clear ho hb hg hat))
    go_roundg k1
    case measure => have := HK1.out; omega
    case rel => exact ⟨(y595), (wrap64 (x10_1 + 1)), eqd, H', ⟨by have := HK1.out; omega⟩, ⟨atR HO597⟩, ⟨atB HB⟩⟩
   ·rw [if_neg c6] at H
    have c6b0 : ((rd l0 x10_1) == a1) = false := beq_eq_false_iff_ne.mpr c6
    have c6b1 : ((rd l0 x10_1) != a1) = true := bne_iff_ne.mpr c6
    have H' := Aside0.mk H
    clear H
    have p594 : 0 ≤ (x10_1 : Int) := ofd
    have q594 : x10_1 < (l0.length : Int) := ofd
    obtain ⟨ad594, e594, hx594_0⟩ := Kd.at_int HR0.out x10_1 p594 q594
    cases e594
    (try replace hx594_0 := (HB.out.cell (World.block_lt_of_cell? w _ hx594_0)).trans hx594_0)
    replace p594 := eq_true p594
    replace q594 := eq_true q594
    go_wp2
    go_roundg k1
    case measure => have := HK1.out; omega
    case rel => exact ⟨(x5_1), (wrap64 (x10_1 + 1)), eqd, H', ⟨by have := HK1.out; omega⟩, ⟨atR HO_5⟩, ⟨atB HB⟩⟩
noncomputable def Zai.L0 (x1 : Int) (x5 : List Int) (x8 : List Int) (x9 : Int) (x10 : Int) : Option (List Int) := lim fun k => Zai.l0 k x1 x5 x8 x9 x10
theorem Zai.L0_lim (x1 : Int) (x5 : List Int) (x8 : List Int) (x9 : Int) (x10 : Int) : Lim (fun k => Zai.l0 k x1 x5 x8 x9 x10) (Zai.L0 x1 x5 x8 x9 x10) := Lim.of fun k => (Zai.mono_l k) x1 x5 x8 x9 x10
noncomputable def Zai.F (l0 : List Int) (a1 : Int) : Option (List Int) := lim fun k => Zai.f k l0 a1
theorem Zai.F_lim (l0 : List Int) (a1 : Int) : Lim (fun k => Zai.f k l0 a1) (Zai.F l0 a1) := Lim.of fun k => Zai.mono l0 a1 k
theorem Zai.L0_eq (x1 : Int) (x5 : List Int) (x8 : List Int) (x9 : Int) (x10 : Int) : Zai.L0 x1 x5 x8 x9 x10 = (if x10 < x9 then (if 0 ≤ x10 then (if x10 < (x8.length : Int) then (if (rd x8 x10) = x1 then (if x5.length < 17592186044416 then (Zai.L0 x1 (x5 ++ [x10]) x8 x9 (wrap64 (x10 + 1))) else (none)) else (Zai.L0 x1 x5 x8 x9 (wrap64 (x10 + 1)))) else (none)) else (none)) else (some x5)) :=
 Lim.step (f := fun k => Zai.l0 (k + 1) x1 x5 x8 x9 x10) (Zai.L0_lim x1 x5 x8 x9 x10) (fun _ => rfl) (by
  simp only [Zai.l0]
  repeat' (first | (with_reducible first | exact Lim.const _ | exact Zai.L0_lim _ _ _ _ _ | refine Lim.ite ?_ ?_ | refine Lim.bind ?_ (fun _ => ?_))))
theorem Zai.F_eq (l0 : List Int) (a1 : Int) : Zai.F l0 a1 = (Zai.L0 a1 ([] : List Int) l0 (l0.length : Int) 0) :=
 Lim.unique (Zai.F_lim l0 a1) (by
  unfold Zai.f
  repeat' (first | (with_reducible first | exact Lim.const _ | exact Zai.L0_lim _ _ _ _ _ | refine Lim.ite ?_ ?_ | refine Lim.bind ?_ (fun _ => ?_))))
def Zal.l0 : Nat → List Int → List Int → Int → Option (List Int)
 | 0, _, _, _ => none
 | k + 1, x0, x3, x4 => if x4 ≤ 20 then ((Zaz.f k x0 x4).bind fun t603 => (if t603 = true then (if x3.length < 17592186044416 then (Zal.l0 k x0 (x3 ++ [x4]) (wrap64 (x4 + 1))) else (none)) else (Zal.l0 k x0 x3 (wrap64 (x4 + 1))))) else (some x3)
def Zal.f (k : Nat) (l0 : List Int) : Option (List Int) := Zal.l0 k l0 ([] : List Int) 1
theorem Zal.mono_l : ∀ k, (∀ y0 y1 y2, LeO (Zal.l0 k y0 y1 y2) (Zal.l0 (k + 1) y0 y1 y2))
 | 0 => fun _ _ _ r h => by simp [Zal.l0] at h
 | k + 1 => by
  have ih0 := Zal.mono_l k
  ·intro y0 y1 y2
   unfold Zal.l0
   repeat' (first | (with_reducible first | exact ih0 _ _ _ | exact Zaz.mono _ _ _ | exact LeO.refl _ | exact LeO.none _ | refine LeO.ite ?_ ?_ | refine LeO.bind ?_ (fun _ => ?_)) | exact ih0 _ _ _ | exact Zaz.mono _ _ _ | exact LeO.none _ | refine LeO.ite ?_ ?_ | refine LeO.bind ?_ (fun _ => ?_))
theorem Zal.mono : ∀ a0 k, LeO (Zal.f k a0) (Zal.f (k + 1) a0) := by
 intro a0 k
 have ih0 := Zal.mono_l k
 unfold Zal.f
 repeat' (first | (with_reducible first | exact ih0 _ _ _ | exact LeO.refl _ | exact LeO.none _ | refine LeO.ite ?_ ?_ | refine LeO.bind ?_ (fun _ => ?_)) | exact ih0 _ _ _ | exact LeO.none _ | refine LeO.ite ?_ ?_ | refine LeO.bind ?_ (fun _ => ?_))
theorem Zal.calls (k : Nat) (A0 : Option Addr) (c0 : Nat) (l0 : List Int) (r : List Int) (w : World) (hr0 : Kd.C (Kd.int .i64) w A0 l0.length l0) (hc0 : l0.length ≤ c0) (h : Zal.f k l0 = some r) :
  Calls Try.prog 85 #[.slice A0 l0.length c0] w fun e w' => ∃ v0_ : Value, e = .returned (v0_) ∧ Kd.R (Kd.int .i64) 3 w' w.heap.size (fun _ => True) v0_ r ∧ Below w.heap.size w w' := by
 have HR0 := Aside0.mk hr0
 have HC0 := Aside0.mk hc0
 clear hr0 hc0
 have HB := Aside0.mk (Below.refl w.heap.size w)
 have H := h
 unfold Zal.f at H
 clear h
 have H' := Aside0.mk H
 clear H
 go_enter Try.func85, Try.ntmps85
 go_wp2
 go_loopg [3, 4] k (fun kq v3 v4 w' => ∃ (x3_1 : List Int) (x4_1 : Int), v4 = .int .i64 x4_1 ∧ Aside0 (Zal.l0 kq l0 x3_1 x4_1 = some r) ∧ Aside0 (kq ≤ k) ∧ Aside0 (Kd.R (Kd.int .i64) 3 w' w.heap.size (fun _ => True) v3 x3_1) ∧ Aside0 (Below w.heap.size w w'))
 case atStart => exact ⟨(([] : List Int)), (1), eqd, H', ⟨Nat.le_refl _⟩, ⟨by first | exact Kd.R_nil _ _ _ _ _ | exact Kd.N_nil _ _ _ _ _ | exact Kd.V_nil _ _ _ _ _ | exact Kd.Q_nil _ _ _ _ _ | exact Kd.S_nil _ _ _ _ _⟩, ⟨atB HB⟩⟩
 case round =>
  clear H'
  obtain ⟨x3_1, x4_1, rfl, HA, HK1, HO_3, HB⟩ := hrel
  cases gk with
  | zero => exact absurd HA.out (by simp [Zal.l0])
  | succ k1 =>
   have H := HA.out
   clear HA
   simp only [Zal.l0] at H
   by_cases c2 : x4_1 ≤ 20
   rotate_left
   ·rw [if_neg c2] at H
    have c2b0 := decide_eq_false c2
    clear c2
    obtain rfl := Option.some.inj H
    go_wp2
    go_ret
    exact ⟨_, eqr, atR HO_3, atB HB⟩
   rw [if_pos c2] at H
   have c2b0 := decide_eq_true c2
   clear c2
   obtain ⟨t603, A3, H⟩ := bs_ H
   (try dsimp only at H)
   by_cases c4 : t603 = true
   rotate_left
   ·replace c4 := Bool.eq_false_iff.mpr c4
    subst c4
    replace H := if_ H
    have H' := Aside0.mk H
    clear H
    go_wp2_with (first | ((with_reducible refine gate_callee (f := 68) rfl ?_); refine goesA (some 11) Try.func68 #[.slice A0 l0.length c0, .int .i64 x4_1] ?_; (with_reducible refine (Zaz.calls k1 _ _ l0 x4_1 false _ ?side1 ?side2 A3.out).mono ?_); (case side1 => repeat (first | exact (Kd.C_below HR0.out HB.out) | (with_reducible refine Kd.C_alloc ?_ _) | (with_reducible refine Kd.C_drewN ?_ _) | (with_reducible refine Kd.C_drew ?_))); (case side2 => exact HC0.out); rintro e w' ⟨rfl, ⟨nd, rfl⟩⟩; refine ⟨_, rfl, ?_⟩))
    go_roundg k1
    case measure => have := HK1.out; omega
    case rel => exact ⟨(x3_1), (wrap64 (x4_1 + 1)), eqd, H', ⟨by have := HK1.out; omega⟩, ⟨atR HO_3⟩, ⟨atB HB⟩⟩
   subst c4
   replace H := it_ H
   obtain ⟨c5, H⟩ := in0_ H
   have LMc5 := Aside0.mk c5
   clear c5
   obtain ⟨y604, hy604⟩ : ∃ y_ : List Int, y_ = (x3_1 ++ [x4_1]) := ⟨_, rfl⟩
   replace H : (Zal.l0 k1 l0 y604 (wrap64 (x4_1 + 1))) = some r := by first | (rw [hy604]; with_reducible exact H) | (have H2_ := (Option.bind_some _ _).symm.trans H; rw [hy604]; with_reducible exact H2_) | (have H2_ := (Option.bind_some _ _).symm.trans H; with_reducible exact H2_) | with_reducible exact H | (rw [hy604]; exact H) | exact H
   have Ny604 := Aside0.mk hy604
   clear hy604
   have H' := Aside0.mk H
   clear H
   go_wp2_with (first | ((with_reducible refine gate_callee (f := 68) rfl ?_); refine goesA (some 11) Try.func68 #[.slice A0 l0.length c0, .int .i64 x4_1] ?_; (with_reducible refine (Zaz.calls k1 _ _ l0 x4_1 true _ ?side1 ?side2 A3.out).mono ?_); (case side1 => repeat (first | exact (Kd.C_below HR0.out HB.out) | (with_reducible refine Kd.C_alloc ?_ _) | (with_reducible refine Kd.C_drewN ?_ _) | (with_reducible refine Kd.C_drew ?_))); (case side2 => exact HC0.out); rintro e w' ⟨rfl, ⟨nd, rfl⟩⟩; refine ⟨_, rfl, ?_⟩) | ((with_reducible refine gate_builtin (b := .append) (xs := #[.tmp 12, .tmp 14]) rfl ?_); at_builtin; refine Kd.R_append (Kd.int .i64) (w0 := w) w.heap.size rfl (.tmp 12) (.tmp 14) 24 3 (.int .i64 0) 8 rfl Try.underlying24 info3 rfl (by decide) (by omega) u3 x3_1 x4_1 [.int .i64 x4_1] (fun _ => True) (fun _ => False) rfl rfl ?aP (fun _ hk => hk.elim) ?aF ?aO ?aB ?aS ?aL ?_; (case aP => exact rfl); (case aB => exact (atB HB)); (case aF => exact (fun _ _ => trivial)); (case aO => exact (atR HO_3)); (case aS => exact (szB HB)); (case aL => have := LMc5.out; omega); intro v605 w6 ho hb hg hat; rw [← Ny604.out] at ho; have HO606 := Aside0.mk (ho); replace HB := Aside0.mk (hb); clear HO_3; clear ho hb hg hat))
   go_roundg k1
   case measure => have := HK1.out; omega
   case rel => exact ⟨(y604), (wrap64 (x4_1 + 1)), eqd, H', ⟨by have := HK1.out; omega⟩, ⟨atR HO606⟩, ⟨atB HB⟩⟩
noncomputable def Zal.L0 (x0 : List Int) (x3 : List Int) (x4 : Int) : Option (List Int) := lim fun k => Zal.l0 k x0 x3 x4
theorem Zal.L0_lim (x0 : List Int) (x3 : List Int) (x4 : Int) : Lim (fun k => Zal.l0 k x0 x3 x4) (Zal.L0 x0 x3 x4) := Lim.of fun k => (Zal.mono_l k) x0 x3 x4
noncomputable def Zal.F (l0 : List Int) : Option (List Int) := lim fun k => Zal.f k l0
theorem Zal.F_lim (l0 : List Int) : Lim (fun k => Zal.f k l0) (Zal.F l0) := Lim.of fun k => Zal.mono l0 k
theorem Zal.L0_eq (x0 : List Int) (x3 : List Int) (x4 : Int) : Zal.L0 x0 x3 x4 = (if x4 ≤ 20 then ((Zaz.F x0 x4).bind fun t603 => (if t603 = true then (if x3.length < 17592186044416 then (Zal.L0 x0 (x3 ++ [x4]) (wrap64 (x4 + 1))) else (none)) else (Zal.L0 x0 x3 (wrap64 (x4 + 1))))) else (some x3)) :=
 Lim.step (f := fun k => Zal.l0 (k + 1) x0 x3 x4) (Zal.L0_lim x0 x3 x4) (fun _ => rfl) (by
  simp only [Zal.l0]
  repeat' (first | (with_reducible first | exact Lim.const _ | exact Zaz.F_lim _ _ | exact Zal.L0_lim _ _ _ | refine Lim.ite ?_ ?_ | refine Lim.bind ?_ (fun _ => ?_))))
theorem Zal.F_eq (l0 : List Int) : Zal.F l0 = (Zal.L0 l0 ([] : List Int) 1) :=
 Lim.unique (Zal.F_lim l0) (by
  unfold Zal.f
  repeat' (first | (with_reducible first | exact Lim.const _ | exact Zal.L0_lim _ _ _ | refine Lim.ite ?_ ?_ | refine Lim.bind ?_ (fun _ => ?_))))
def Zbc.l0 : Nat → List Int → Int → List Int → Int → Int → Option (Bool)
 | 0, _, _, _, _, _ => none
 | k + 1, x0, x1, x9, x10, x11 => if x11 < x10 then (if 0 ≤ x11 then (if x11 < (x9.length : Int) then ((Zai.f k x0 (rd x9 x11)).bind fun t611 => (if 1 < (t611.length : Int) then (if 0 < (t611.length : Int) then (if (wrap64 ((rd t611 1) - (rd t611 0))) = (wrap64 ((rd x9 x11) + x1)) then (Zbc.l0 k x0 x1 x9 x10 (wrap64 (x11 + 1))) else (some false)) else (none)) else (none))) else (none)) else (none)) else (some true)
def Zbc.f (k : Nat) (l0 : List Int) (a1 : Int) : Option (Bool) := (Zal.f k l0).bind fun t607 => (Zbc.l0 k l0 a1 t607 (t607.length : Int) 0)
theorem Zbc.mono_l : ∀ k, (∀ y0 y1 y2 y3 y4, LeO (Zbc.l0 k y0 y1 y2 y3 y4) (Zbc.l0 (k + 1) y0 y1 y2 y3 y4))
 | 0 => fun _ _ _ _ _ r h => by simp [Zbc.l0] at h
 | k + 1 => by
  have ih0 := Zbc.mono_l k
  ·intro y0 y1 y2 y3 y4
   unfold Zbc.l0
   repeat' (first | (with_reducible first | exact ih0 _ _ _ _ _ | exact Zai.mono _ _ _ | exact LeO.refl _ | exact LeO.none _ | refine LeO.ite ?_ ?_ | refine LeO.bind ?_ (fun _ => ?_)) | exact ih0 _ _ _ _ _ | exact Zai.mono _ _ _ | exact LeO.none _ | refine LeO.ite ?_ ?_ | refine LeO.bind ?_ (fun _ => ?_))
theorem Zbc.mono : ∀ a0 a1 k, LeO (Zbc.f k a0 a1) (Zbc.f (k + 1) a0 a1) := by
 intro a0 a1 k
 have ih0 := Zbc.mono_l k
 unfold Zbc.f
 repeat' (first | (with_reducible first | exact ih0 _ _ _ _ _ | exact Zal.mono _ _ | exact LeO.refl _ | exact LeO.none _ | refine LeO.ite ?_ ?_ | refine LeO.bind ?_ (fun _ => ?_)) | exact ih0 _ _ _ _ _ | exact Zal.mono _ _ | exact LeO.none _ | refine LeO.ite ?_ ?_ | refine LeO.bind ?_ (fun _ => ?_))
theorem Zbc.calls (k : Nat) (A0 : Option Addr) (c0 : Nat) (l0 : List Int) (a1 : Int) (r : Bool) (w : World) (hr0 : Kd.C (Kd.int .i64) w A0 l0.length l0) (hc0 : l0.length ≤ c0) (h : Zbc.f k l0 a1 = some r) :
  Calls Try.prog 76 #[.slice A0 l0.length c0, .int .i64 a1] w fun e w' => e = .returned (.bool r) ∧ Below w.heap.size w w' := by
 have HR0 := Aside0.mk hr0
 have HC0 := Aside0.mk hc0
 clear hr0 hc0
 have HB := Aside0.mk (Below.refl w.heap.size w)
 have H := h
 unfold Zbc.f at H
 clear h
 obtain ⟨t607, A3, H⟩ := bs_ H
 (try dsimp only at H)
 have H' := Aside0.mk H
 clear H
 go_enter Try.func76, Try.ntmps76
 go_wp2_with (first | (go_at_call 85; (with_reducible refine (Zal.calls k _ _ l0 t607 _ ?side1 ?side2 A3.out).mono ?_); (case side1 => repeat (first | exact HR0.out | (with_reducible refine Kd.C_alloc ?_ _) | (with_reducible refine Kd.C_drewN ?_ _) | (with_reducible refine Kd.C_drew ?_))); (case side2 => exact HC0.out); rintro e w4 ⟨v608, rfl, ho0, hb⟩; have HO609 := lowR ho0 HB; replace HB := upB HB hb; obtain ⟨Ao5, co5, eo5⟩ := Kd.R_slice HO609.out; subst eo5))
 repeat (go_quiet (first | (go_at_call 85; (with_reducible refine (Zal.calls k _ _ l0 t607 _ ?side1 ?side2 A3.out).mono ?_); (case side1 => repeat (first | exact HR0.out | (with_reducible refine Kd.C_alloc ?_ _) | (with_reducible refine Kd.C_drewN ?_ _) | (with_reducible refine Kd.C_drew ?_))); (case side2 => exact HC0.out); rintro e w4 ⟨v608, rfl, ho0, hb⟩; have HO609 := lowR ho0 HB; replace HB := upB HB hb; obtain ⟨Ao5, co5, eo5⟩ := Kd.R_slice HO609.out; subst eo5)); try go_wp2_with (first | (go_at_call 85; (with_reducible refine (Zal.calls k _ _ l0 t607 _ ?side1 ?side2 A3.out).mono ?_); (case side1 => repeat (first | exact HR0.out | (with_reducible refine Kd.C_alloc ?_ _) | (with_reducible refine Kd.C_drewN ?_ _) | (with_reducible refine Kd.C_drew ?_))); (case side2 => exact HC0.out); rintro e w4 ⟨v608, rfl, ho0, hb⟩; have HO609 := lowR ho0 HB; replace HB := upB HB hb; obtain ⟨Ao5, co5, eo5⟩ := Kd.R_slice HO609.out; subst eo5)))
 go_loopg [11] k (fun kq v11 w' => ∃ (x11_1 : Int), v11 = .int .i64 x11_1 ∧ Aside0 (Zbc.l0 kq l0 a1 t607 (t607.length : Int) x11_1 = some r) ∧ Aside0 (kq ≤ k) ∧ Aside0 (Kd.R (Kd.int .i64) 3 w' w.heap.size (fun _ => True) (.slice Ao5 t607.length co5) t607) ∧ Aside0 (Below w.heap.size w w'))
 case atStart => exact ⟨(0), eqd, H', ⟨Nat.le_refl _⟩, ⟨atR HO609⟩, ⟨atB HB⟩⟩
 case round =>
  clear H'
  obtain ⟨x11_1, rfl, HA, HK1, HO_9, HB⟩ := hrel
  cases gk with
  | zero => exact absurd HA.out (by simp [Zbc.l0])
  | succ k1 =>
   have H := HA.out
   clear HA
   simp only [Zbc.l0] at H
   by_cases c6 : x11_1 < (t607.length : Int)
   rotate_left
   ·rw [if_neg c6] at H
    have c6b0 := decide_eq_false c6
    clear c6
    obtain rfl := Option.some.inj H
    go_wp2
    repeat (go_quiet (fail); try go_wp2)
    go_ret
    exact ⟨eqr, atB HB⟩
   rw [if_pos c6] at H
   have c6b0 := decide_eq_true c6
   clear c6
   obtain ⟨c7b0, H⟩ := in_ H
   obtain ⟨c8b0, H⟩ := in_ H
   obtain ⟨t611, A9, H⟩ := bs_ H
   (try dsimp only at H)
   obtain ⟨c10, H⟩ := in0_ H
   have c10b0 := decide_eq_true c10
   have c10b1 : decide (1 < t611.length) = true := decide_eq_true (by omega)
   clear c10
   obtain ⟨c11, H⟩ := in0_ H
   have c11b0 := decide_eq_true c11
   have c11b1 : decide (0 < t611.length) = true := decide_eq_true (by omega)
   clear c11
   by_cases c12 : (wrap64 ((rd t611 1) - (rd t611 0))) = (wrap64 ((rd t607 x11_1) + a1))
   ·rw [if_pos c12] at H
    have c12b0 : ((wrap64 ((rd t611 1) - (rd t611 0))) == (wrap64 ((rd t607 x11_1) + a1))) = true := beq_iff_eq.mpr c12
    have c12b1 : ((wrap64 ((rd t611 1) - (rd t611 0))) != (wrap64 ((rd t607 x11_1) + a1))) = false := bne_eq_false_iff_eq.mpr c12
    clear c12
    have H' := Aside0.mk H
    clear H
    have p610 : 0 ≤ (x11_1 : Int) := ofd
    have q610 : x11_1 < (t607.length : Int) := ofd
    obtain ⟨ad610, e610, hx610_0⟩ := Kd.at_int (Kd.R_reads' HO_9.out).2.2 x11_1 p610 q610
    cases e610
    replace p610 := eq_true p610
    replace q610 := eq_true q610
    go_wp2_with (first | (go_at_call 59; (with_reducible refine (Zai.calls k1 _ _ l0 (rd t607 x11_1) t611 _ ?side1 ?side2 A9.out).mono ?_); (case side1 => repeat (first | exact (Kd.C_below HR0.out HB.out) | (with_reducible refine Kd.C_alloc ?_ _) | (with_reducible refine Kd.C_drewN ?_ _) | (with_reducible refine Kd.C_drew ?_))); (case side2 => exact HC0.out); rintro e w13 ⟨v612, rfl, ho0, hb⟩; have HO613 := Aside0.mk (Kd.R_lower (Kd.R_new' ho0 (ltR HO_9)) (szB HB)); replace HO_9 := eldRR HO_9 ho0 hb; replace HB := upB HB hb; obtain ⟨Ao14, co14, eo14⟩ := Kd.R_slice HO613.out; subst eo14; have p614 : 0 ≤ (1 : Int) := (by omega); have q614 : 1 < (t611.length : Int) := ofd; obtain ⟨ad614, e614, hx614_0⟩ := Kd.at_int (Kd.R_reads' HO613.out).2.2 1 p614 q614; cases e614; (try simp only [show (1 : Int).toNat = 1 from rfl, Nat.reduceMul, Nat.reduceEqDiff, Go.Addr.add, ↓reduceIte] at hx614_0); have qi614 : (1 < t611.length) = True := eq_true (by omega); (try rw [show ((1 : Int)).toNat = 1 from rfl] at hx614_0); replace p614 := eq_true p614; replace q614 := eq_true q614; have p615 : 0 ≤ (0 : Int) := (by omega); have q615 : 0 < (t611.length : Int) := ofd; obtain ⟨ad615, e615, hx615_0⟩ := Kd.at_int (Kd.R_reads' HO613.out).2.2 0 p615 q615; obtain rfl : ad614 = ad615 := (by injection e615); have qi615 : (0 < t611.length) = True := eq_true (by omega); (try rw [show ((0 : Int)).toNat = 0 from rfl] at hx615_0); (try rw [Addr.add_zero'] at hx615_0); replace p615 := eq_true p615; replace q615 := eq_true q615))
    repeat (go_quiet (first | (go_at_call 59; (with_reducible refine (Zai.calls k1 _ _ l0 (rd t607 x11_1) t611 _ ?side1 ?side2 A9.out).mono ?_); (case side1 => repeat (first | exact (Kd.C_below HR0.out HB.out) | (with_reducible refine Kd.C_alloc ?_ _) | (with_reducible refine Kd.C_drewN ?_ _) | (with_reducible refine Kd.C_drew ?_))); (case side2 => exact HC0.out); rintro e w13 ⟨v612, rfl, ho0, hb⟩; have HO613 := Aside0.mk (Kd.R_lower (Kd.R_new' ho0 (ltR HO_9)) (szB HB)); replace HO_9 := eldRR HO_9 ho0 hb; replace HB := upB HB hb; obtain ⟨Ao14, co14, eo14⟩ := Kd.R_slice HO613.out; subst eo14; have p614 : 0 ≤ (1 : Int) := (by omega); have q614 : 1 < (t611.length : Int) := ofd; obtain ⟨ad614, e614, hx614_0⟩ := Kd.at_int (Kd.R_reads' HO613.out).2.2 1 p614 q614; cases e614; (try simp only [show (1 : Int).toNat = 1 from rfl, Nat.reduceMul, Nat.reduceEqDiff, Go.Addr.add, ↓reduceIte] at hx614_0); have qi614 : (1 < t611.length) = True := eq_true (by omega); (try rw [show ((1 : Int)).toNat = 1 from rfl] at hx614_0); replace p614 := eq_true p614; replace q614 := eq_true q614; have p615 : 0 ≤ (0 : Int) := (by omega); have q615 : 0 < (t611.length : Int) := ofd; obtain ⟨ad615, e615, hx615_0⟩ := Kd.at_int (Kd.R_reads' HO613.out).2.2 0 p615 q615; obtain rfl : ad614 = ad615 := (by injection e615); have qi615 : (0 < t611.length) = True := eq_true (by omega); (try rw [show ((0 : Int)).toNat = 0 from rfl] at hx615_0); (try rw [Addr.add_zero'] at hx615_0); replace p615 := eq_true p615; replace q615 := eq_true q615)); try go_wp2_with (first | (go_at_call 59; (with_reducible refine (Zai.calls k1 _ _ l0 (rd t607 x11_1) t611 _ ?side1 ?side2 A9.out).mono ?_); (case side1 => repeat (first | exact (Kd.C_below HR0.out HB.out) | (with_reducible refine Kd.C_alloc ?_ _) | (with_reducible refine Kd.C_drewN ?_ _) | (with_reducible refine Kd.C_drew ?_))); (case side2 => exact HC0.out); rintro e w13 ⟨v612, rfl, ho0, hb⟩; have HO613 := Aside0.mk (Kd.R_lower (Kd.R_new' ho0 (ltR HO_9)) (szB HB)); replace HO_9 := eldRR HO_9 ho0 hb; replace HB := upB HB hb; obtain ⟨Ao14, co14, eo14⟩ := Kd.R_slice HO613.out; subst eo14; have p614 : 0 ≤ (1 : Int) := (by omega); have q614 : 1 < (t611.length : Int) := ofd; obtain ⟨ad614, e614, hx614_0⟩ := Kd.at_int (Kd.R_reads' HO613.out).2.2 1 p614 q614; cases e614; (try simp only [show (1 : Int).toNat = 1 from rfl, Nat.reduceMul, Nat.reduceEqDiff, Go.Addr.add, ↓reduceIte] at hx614_0); have qi614 : (1 < t611.length) = True := eq_true (by omega); (try rw [show ((1 : Int)).toNat = 1 from rfl] at hx614_0); replace p614 := eq_true p614; replace q614 := eq_true q614; have p615 : 0 ≤ (0 : Int) := (by omega); have q615 : 0 < (t611.length : Int) := ofd; obtain ⟨ad615, e615, hx615_0⟩ := Kd.at_int (Kd.R_reads' HO613.out).2.2 0 p615 q615; obtain rfl : ad614 = ad615 := (by injection e615); have qi615 : (0 < t611.length) = True := eq_true (by omega); (try rw [show ((0 : Int)).toNat = 0 from rfl] at hx615_0); (try rw [Addr.add_zero'] at hx615_0); replace p615 := eq_true p615; replace q615 := eq_true q615)))
    go_roundg k1
    case measure => have := HK1.out; omega
    case rel => exact ⟨(wrap64 (x11_1 + 1)), eqd, H', ⟨by have := HK1.out; omega⟩, ⟨by (with_reducible repeat (first | apply Kd.R_alloc | apply Kd.R_drewN | apply Kd.R_drew)); exact Kd.R_mono HO_9.out (fun _ hk => trivial)⟩, ⟨atB HB⟩⟩
   ·rw [if_neg c12] at H
    have c12b0 : ((wrap64 ((rd t611 1) - (rd t611 0))) == (wrap64 ((rd t607 x11_1) + a1))) = false := beq_eq_false_iff_ne.mpr c12
    have c12b1 : ((wrap64 ((rd t611 1) - (rd t611 0))) != (wrap64 ((rd t607 x11_1) + a1))) = true := bne_iff_ne.mpr c12
    obtain rfl := Option.some.inj H
    have p610 : 0 ≤ (x11_1 : Int) := ofd
    have q610 : x11_1 < (t607.length : Int) := ofd
    obtain ⟨ad610, e610, hx610_0⟩ := Kd.at_int (Kd.R_reads' HO_9.out).2.2 x11_1 p610 q610
    cases e610
    replace p610 := eq_true p610
    replace q610 := eq_true q610
    go_wp2_with (first | (go_at_call 59; (with_reducible refine (Zai.calls k1 _ _ l0 (rd t607 x11_1) t611 _ ?side1 ?side2 A9.out).mono ?_); (case side1 => repeat (first | exact (Kd.C_below HR0.out HB.out) | (with_reducible refine Kd.C_alloc ?_ _) | (with_reducible refine Kd.C_drewN ?_ _) | (with_reducible refine Kd.C_drew ?_))); (case side2 => exact HC0.out); rintro e w15 ⟨v612, rfl, ho0, hb⟩; have HO613 := Aside0.mk (Kd.R_lower (Kd.R_new' ho0 (ltR HO_9)) (szB HB)); replace HO_9 := eldRR HO_9 ho0 hb; replace HB := upB HB hb; obtain ⟨Ao16, co16, eo16⟩ := Kd.R_slice HO613.out; subst eo16; have p614 : 0 ≤ (1 : Int) := (by omega); have q614 : 1 < (t611.length : Int) := ofd; obtain ⟨ad614, e614, hx614_0⟩ := Kd.at_int (Kd.R_reads' HO613.out).2.2 1 p614 q614; cases e614; (try simp only [show (1 : Int).toNat = 1 from rfl, Nat.reduceMul, Nat.reduceEqDiff, Go.Addr.add, ↓reduceIte] at hx614_0); have qi614 : (1 < t611.length) = True := eq_true (by omega); (try rw [show ((1 : Int)).toNat = 1 from rfl] at hx614_0); replace p614 := eq_true p614; replace q614 := eq_true q614; have p615 : 0 ≤ (0 : Int) := (by omega); have q615 : 0 < (t611.length : Int) := ofd; obtain ⟨ad615, e615, hx615_0⟩ := Kd.at_int (Kd.R_reads' HO613.out).2.2 0 p615 q615; obtain rfl : ad614 = ad615 := (by injection e615); have qi615 : (0 < t611.length) = True := eq_true (by omega); (try rw [show ((0 : Int)).toNat = 0 from rfl] at hx615_0); (try rw [Addr.add_zero'] at hx615_0); replace p615 := eq_true p615; replace q615 := eq_true q615))
    repeat (go_quiet (first | (go_at_call 59; (with_reducible refine (Zai.calls k1 _ _ l0 (rd t607 x11_1) t611 _ ?side1 ?side2 A9.out).mono ?_); (case side1 => repeat (first | exact (Kd.C_below HR0.out HB.out) | (with_reducible refine Kd.C_alloc ?_ _) | (with_reducible refine Kd.C_drewN ?_ _) | (with_reducible refine Kd.C_drew ?_))); (case side2 => exact HC0.out); rintro e w15 ⟨v612, rfl, ho0, hb⟩; have HO613 := Aside0.mk (Kd.R_lower (Kd.R_new' ho0 (ltR HO_9)) (szB HB)); replace HO_9 := eldRR HO_9 ho0 hb; replace HB := upB HB hb; obtain ⟨Ao16, co16, eo16⟩ := Kd.R_slice HO613.out; subst eo16; have p614 : 0 ≤ (1 : Int) := (by omega); have q614 : 1 < (t611.length : Int) := ofd; obtain ⟨ad614, e614, hx614_0⟩ := Kd.at_int (Kd.R_reads' HO613.out).2.2 1 p614 q614; cases e614; (try simp only [show (1 : Int).toNat = 1 from rfl, Nat.reduceMul, Nat.reduceEqDiff, Go.Addr.add, ↓reduceIte] at hx614_0); have qi614 : (1 < t611.length) = True := eq_true (by omega); (try rw [show ((1 : Int)).toNat = 1 from rfl] at hx614_0); replace p614 := eq_true p614; replace q614 := eq_true q614; have p615 : 0 ≤ (0 : Int) := (by omega); have q615 : 0 < (t611.length : Int) := ofd; obtain ⟨ad615, e615, hx615_0⟩ := Kd.at_int (Kd.R_reads' HO613.out).2.2 0 p615 q615; obtain rfl : ad614 = ad615 := (by injection e615); have qi615 : (0 < t611.length) = True := eq_true (by omega); (try rw [show ((0 : Int)).toNat = 0 from rfl] at hx615_0); (try rw [Addr.add_zero'] at hx615_0); replace p615 := eq_true p615; replace q615 := eq_true q615)); try go_wp2_with (first | (go_at_call 59; (with_reducible refine (Zai.calls k1 _ _ l0 (rd t607 x11_1) t611 _ ?side1 ?side2 A9.out).mono ?_); (case side1 => repeat (first | exact (Kd.C_below HR0.out HB.out) | (with_reducible refine Kd.C_alloc ?_ _) | (with_reducible refine Kd.C_drewN ?_ _) | (with_reducible refine Kd.C_drew ?_))); (case side2 => exact HC0.out); rintro e w15 ⟨v612, rfl, ho0, hb⟩; have HO613 := Aside0.mk (Kd.R_lower (Kd.R_new' ho0 (ltR HO_9)) (szB HB)); replace HO_9 := eldRR HO_9 ho0 hb; replace HB := upB HB hb; obtain ⟨Ao16, co16, eo16⟩ := Kd.R_slice HO613.out; subst eo16; have p614 : 0 ≤ (1 : Int) := (by omega); have q614 : 1 < (t611.length : Int) := ofd; obtain ⟨ad614, e614, hx614_0⟩ := Kd.at_int (Kd.R_reads' HO613.out).2.2 1 p614 q614; cases e614; (try simp only [show (1 : Int).toNat = 1 from rfl, Nat.reduceMul, Nat.reduceEqDiff, Go.Addr.add, ↓reduceIte] at hx614_0); have qi614 : (1 < t611.length) = True := eq_true (by omega); (try rw [show ((1 : Int)).toNat = 1 from rfl] at hx614_0); replace p614 := eq_true p614; replace q614 := eq_true q614; have p615 : 0 ≤ (0 : Int) := (by omega); have q615 : 0 < (t611.length : Int) := ofd; obtain ⟨ad615, e615, hx615_0⟩ := Kd.at_int (Kd.R_reads' HO613.out).2.2 0 p615 q615; obtain rfl : ad614 = ad615 := (by injection e615); have qi615 : (0 < t611.length) = True := eq_true (by omega); (try rw [show ((0 : Int)).toNat = 0 from rfl] at hx615_0); (try rw [Addr.add_zero'] at hx615_0); replace p615 := eq_true p615; replace q615 := eq_true q615)))
    go_ret
    exact ⟨eqr, atB HB⟩
noncomputable def Zbc.L0 (x0 : List Int) (x1 : Int) (x9 : List Int) (x10 : Int) (x11 : Int) : Option (Bool) := lim fun k => Zbc.l0 k x0 x1 x9 x10 x11
theorem Zbc.L0_lim (x0 : List Int) (x1 : Int) (x9 : List Int) (x10 : Int) (x11 : Int) : Lim (fun k => Zbc.l0 k x0 x1 x9 x10 x11) (Zbc.L0 x0 x1 x9 x10 x11) := Lim.of fun k => (Zbc.mono_l k) x0 x1 x9 x10 x11
noncomputable def Zbc.F (l0 : List Int) (a1 : Int) : Option (Bool) := lim fun k => Zbc.f k l0 a1
theorem Zbc.F_lim (l0 : List Int) (a1 : Int) : Lim (fun k => Zbc.f k l0 a1) (Zbc.F l0 a1) := Lim.of fun k => Zbc.mono l0 a1 k
theorem Zbc.L0_eq (x0 : List Int) (x1 : Int) (x9 : List Int) (x10 : Int) (x11 : Int) : Zbc.L0 x0 x1 x9 x10 x11 = (if x11 < x10 then (if 0 ≤ x11 then (if x11 < (x9.length : Int) then ((Zai.F x0 (rd x9 x11)).bind fun t611 => (if 1 < (t611.length : Int) then (if 0 < (t611.length : Int) then (if (wrap64 ((rd t611 1) - (rd t611 0))) = (wrap64 ((rd x9 x11) + x1)) then (Zbc.L0 x0 x1 x9 x10 (wrap64 (x11 + 1))) else (some false)) else (none)) else (none))) else (none)) else (none)) else (some true)) :=
 Lim.step (f := fun k => Zbc.l0 (k + 1) x0 x1 x9 x10 x11) (Zbc.L0_lim x0 x1 x9 x10 x11) (fun _ => rfl) (by
  simp only [Zbc.l0]
  repeat' (first | (with_reducible first | exact Lim.const _ | exact Zbc.L0_lim _ _ _ _ _ | exact Zai.F_lim _ _ | refine Lim.ite ?_ ?_ | refine Lim.bind ?_ (fun _ => ?_))))
theorem Zbc.F_eq (l0 : List Int) (a1 : Int) : Zbc.F l0 a1 = ((Zal.F l0).bind fun t607 => (Zbc.L0 l0 a1 t607 (t607.length : Int) 0)) :=
 Lim.unique (Zbc.F_lim l0 a1) (by
  unfold Zbc.f
  repeat' (first | (with_reducible first | exact Lim.const _ | exact Zbc.L0_lim _ _ _ _ _ | exact Zal.F_lim _ | refine Lim.ite ?_ ?_ | refine Lim.bind ?_ (fun _ => ?_))))
def Zbg.l0 : Nat → List Int → List Int → Int → Int → Option (List Int)
 | 0, _, _, _, _ => none
 | k + 1, x3, x6, x7, x8 => if x8 < x7 then (if 0 ≤ x8 then (if x8 < (x6.length : Int) then (if (rd x6 x8) = 0 then (if x3.length < 17592186044416 then (Zbg.l0 k (x3 ++ [x8]) x6 x7 (wrap64 (x8 + 1))) else (none)) else (Zbg.l0 k x3 x6 x7 (wrap64 (x8 + 1)))) else (none)) else (none)) else (some x3)
def Zbg.f (k : Nat) (l0 : List Int) : Option (List Int) := Zbg.l0 k ([] : List Int) l0 (l0.length : Int) 0
theorem Zbg.mono_l : ∀ k, (∀ y0 y1 y2 y3, LeO (Zbg.l0 k y0 y1 y2 y3) (Zbg.l0 (k + 1) y0 y1 y2 y3))
 | 0 => fun _ _ _ _ r h => by simp [Zbg.l0] at h
 | k + 1 => by
  have ih0 := Zbg.mono_l k
  ·intro y0 y1 y2 y3
   unfold Zbg.l0
   repeat' (first | (with_reducible first | exact ih0 _ _ _ _ | exact LeO.refl _ | exact LeO.none _ | refine LeO.ite ?_ ?_ | refine LeO.bind ?_ (fun _ => ?_)) | exact ih0 _ _ _ _ | exact LeO.none _ | refine LeO.ite ?_ ?_ | refine LeO.bind ?_ (fun _ => ?_))
theorem Zbg.mono : ∀ a0 k, LeO (Zbg.f k a0) (Zbg.f (k + 1) a0) := by
 intro a0 k
 have ih0 := Zbg.mono_l k
 unfold Zbg.f
 repeat' (first | (with_reducible first | exact ih0 _ _ _ _ | exact LeO.refl _ | exact LeO.none _ | refine LeO.ite ?_ ?_ | refine LeO.bind ?_ (fun _ => ?_)) | exact ih0 _ _ _ _ | exact LeO.none _ | refine LeO.ite ?_ ?_ | refine LeO.bind ?_ (fun _ => ?_))
theorem Zbg.calls (k : Nat) (A0 : Option Addr) (c0 : Nat) (l0 : List Int) (r : List Int) (w : World) (hr0 : Kd.C (Kd.int .i64) w A0 l0.length l0) (hc0 : l0.length ≤ c0) (h : Zbg.f k l0 = some r) :
  Calls Try.prog 72 #[.slice A0 l0.length c0] w fun e w' => ∃ v0_ : Value, e = .returned (v0_) ∧ Kd.R (Kd.int .i64) 3 w' w.heap.size (fun _ => True) v0_ r ∧ Below w.heap.size w w' := by
 have HR0 := Aside0.mk hr0
 have HC0 := Aside0.mk hc0
 clear hr0 hc0
 have HB := Aside0.mk (Below.refl w.heap.size w)
 have H := h
 unfold Zbg.f at H
 clear h
 have H' := Aside0.mk H
 clear H
 go_enter Try.func72, Try.ntmps72
 go_wp2
 go_loopg [3, 8] k (fun kq v3 v8 w' => ∃ (x3_1 : List Int) (x8_1 : Int), v8 = .int .i64 x8_1 ∧ Aside0 (Zbg.l0 kq x3_1 l0 (l0.length : Int) x8_1 = some r) ∧ Aside0 (kq ≤ k) ∧ Aside0 (Kd.R (Kd.int .i64) 3 w' w.heap.size (fun _ => True) v3 x3_1) ∧ Aside0 (Below w.heap.size w w'))
 case atStart => exact ⟨(([] : List Int)), (0), eqd, H', ⟨Nat.le_refl _⟩, ⟨by first | exact Kd.R_nil _ _ _ _ _ | exact Kd.N_nil _ _ _ _ _ | exact Kd.V_nil _ _ _ _ _ | exact Kd.Q_nil _ _ _ _ _ | exact Kd.S_nil _ _ _ _ _⟩, ⟨atB HB⟩⟩
 case round =>
  clear H'
  obtain ⟨x3_1, x8_1, rfl, HA, HK1, HO_3, HB⟩ := hrel
  cases gk with
  | zero => exact absurd HA.out (by simp [Zbg.l0])
  | succ k1 =>
   have H := HA.out
   clear HA
   simp only [Zbg.l0] at H
   by_cases c2 : x8_1 < (l0.length : Int)
   rotate_left
   ·rw [if_neg c2] at H
    have c2b0 := decide_eq_false c2
    clear c2
    obtain rfl := Option.some.inj H
    go_wp2
    go_ret
    exact ⟨_, eqr, atR HO_3, atB HB⟩
   rw [if_pos c2] at H
   have c2b0 := decide_eq_true c2
   clear c2
   obtain ⟨c3b0, H⟩ := in_ H
   obtain ⟨c4b0, H⟩ := in_ H
   by_cases c5 : (rd l0 x8_1) = 0
   ·rw [if_pos c5] at H
    have c5b0 : ((rd l0 x8_1) == 0) = true := beq_iff_eq.mpr c5
    have c5b1 : ((rd l0 x8_1) != 0) = false := bne_eq_false_iff_eq.mpr c5
    clear c5
    obtain ⟨c6, H⟩ := in0_ H
    have LMc6 := Aside0.mk c6
    clear c6
    obtain ⟨y576, hy576⟩ : ∃ y_ : List Int, y_ = (x3_1 ++ [x8_1]) := ⟨_, rfl⟩
    replace H : (Zbg.l0 k1 y576 l0 (l0.length : Int) (wrap64 (x8_1 + 1))) = some r := by first | (rw [hy576]; with_reducible exact H) | (have H2_ := (Option.bind_some _ _).symm.trans H; rw [hy576]; with_reducible exact H2_) | (have H2_ := (Option.bind_some _ _).symm.trans H; with_reducible exact H2_) | with_reducible exact H | (rw [hy576]; exact H) | exact H
    have Ny576 := Aside0.mk hy576
    clear hy576
    have H' := Aside0.mk H
    clear H
    have p575 : 0 ≤ (x8_1 : Int) := ofd
    have q575 : x8_1 < (l0.length : Int) := ofd
    obtain ⟨ad575, e575, hx575_0⟩ := Kd.at_int HR0.out x8_1 p575 q575
    cases e575
    (try replace hx575_0 := (HB.out.cell (World.block_lt_of_cell? w _ hx575_0)).trans hx575_0)
    replace p575 := eq_true p575
    replace q575 := eq_true q575
    go_wp2_with (first | ((with_reducible refine gate_builtin (b := .append) (xs := #[.tmp 15, .tmp 17]) rfl ?_); at_builtin; refine Kd.R_append (Kd.int .i64) (w0 := w) w.heap.size rfl (.tmp 15) (.tmp 17) 24 3 (.int .i64 0) 8 rfl Try.underlying24 info3 rfl (by decide) (by omega) u3 x3_1 x8_1 [.int .i64 x8_1] (fun _ => True) (fun _ => False) rfl rfl ?aP (fun _ hk => hk.elim) ?aF ?aO ?aB ?aS ?aL ?_; (case aP => exact rfl); (case aB => exact (atB HB)); (case aF => exact (fun _ _ => trivial)); (case aO => exact (atR HO_3)); (case aS => exact (szB HB)); (case aL => have := LMc6.out; omega); intro v577 w7 ho hb hg hat; rw [← Ny576.out] at ho; have HO578 := Aside0.mk (ho); replace HB := Aside0.mk (hb); clear HO_3; clear ho hb hg hat))
    go_roundg k1
    case measure => have := HK1.out; omega
    case rel => exact ⟨(y576), (wrap64 (x8_1 + 1)), eqd, H', ⟨by have := HK1.out; omega⟩, ⟨atR HO578⟩, ⟨atB HB⟩⟩
   ·rw [if_neg c5] at H
    have c5b0 : ((rd l0 x8_1) == 0) = false := beq_eq_false_iff_ne.mpr c5
    have c5b1 : ((rd l0 x8_1) != 0) = true := bne_iff_ne.mpr c5
    have H' := Aside0.mk H
    clear H
    have p575 : 0 ≤ (x8_1 : Int) := ofd
    have q575 : x8_1 < (l0.length : Int) := ofd
    obtain ⟨ad575, e575, hx575_0⟩ := Kd.at_int HR0.out x8_1 p575 q575
    cases e575
    (try replace hx575_0 := (HB.out.cell (World.block_lt_of_cell? w _ hx575_0)).trans hx575_0)
    replace p575 := eq_true p575
    replace q575 := eq_true q575
    go_wp2
    go_roundg k1
    case measure => have := HK1.out; omega
    case rel => exact ⟨(x3_1), (wrap64 (x8_1 + 1)), eqd, H', ⟨by have := HK1.out; omega⟩, ⟨atR HO_3⟩, ⟨atB HB⟩⟩
noncomputable def Zbg.L0 (x3 : List Int) (x6 : List Int) (x7 : Int) (x8 : Int) : Option (List Int) := lim fun k => Zbg.l0 k x3 x6 x7 x8
theorem Zbg.L0_lim (x3 : List Int) (x6 : List Int) (x7 : Int) (x8 : Int) : Lim (fun k => Zbg.l0 k x3 x6 x7 x8) (Zbg.L0 x3 x6 x7 x8) := Lim.of fun k => (Zbg.mono_l k) x3 x6 x7 x8
noncomputable def Zbg.F (l0 : List Int) : Option (List Int) := lim fun k => Zbg.f k l0
theorem Zbg.F_lim (l0 : List Int) : Lim (fun k => Zbg.f k l0) (Zbg.F l0) := Lim.of fun k => Zbg.mono l0 k
theorem Zbg.L0_eq (x3 : List Int) (x6 : List Int) (x7 : Int) (x8 : Int) : Zbg.L0 x3 x6 x7 x8 = (if x8 < x7 then (if 0 ≤ x8 then (if x8 < (x6.length : Int) then (if (rd x6 x8) = 0 then (if x3.length < 17592186044416 then (Zbg.L0 (x3 ++ [x8]) x6 x7 (wrap64 (x8 + 1))) else (none)) else (Zbg.L0 x3 x6 x7 (wrap64 (x8 + 1)))) else (none)) else (none)) else (some x3)) :=
 Lim.step (f := fun k => Zbg.l0 (k + 1) x3 x6 x7 x8) (Zbg.L0_lim x3 x6 x7 x8) (fun _ => rfl) (by
  simp only [Zbg.l0]
  repeat' (first | (with_reducible first | exact Lim.const _ | exact Zbg.L0_lim _ _ _ _ | refine Lim.ite ?_ ?_ | refine Lim.bind ?_ (fun _ => ?_))))
theorem Zbg.F_eq (l0 : List Int) : Zbg.F l0 = (Zbg.L0 ([] : List Int) l0 (l0.length : Int) 0) :=
 Lim.unique (Zbg.F_lim l0) (by
  unfold Zbg.f
  repeat' (first | (with_reducible first | exact Lim.const _ | exact Zbg.L0_lim _ _ _ _ | refine Lim.ite ?_ ?_ | refine Lim.bind ?_ (fun _ => ?_))))
def Zaw.l0 : Nat → List Int → List Int → Int → Option (List Int)
 | 0, _, _, _ => none
 | k + 1, x0, x3, x4 => if x4 ≤ 20 then ((Zah.f k x0 x4).bind fun t579 => (if t579 = true then (if x3.length < 17592186044416 then (Zaw.l0 k x0 (x3 ++ [x4]) (wrap64 (x4 + 1))) else (none)) else (Zaw.l0 k x0 x3 (wrap64 (x4 + 1))))) else (some x3)
def Zaw.f (k : Nat) (l0 : List Int) : Option (List Int) := Zaw.l0 k l0 ([] : List Int) 1
theorem Zaw.mono_l : ∀ k, (∀ y0 y1 y2, LeO (Zaw.l0 k y0 y1 y2) (Zaw.l0 (k + 1) y0 y1 y2))
 | 0 => fun _ _ _ r h => by simp [Zaw.l0] at h
 | k + 1 => by
  have ih0 := Zaw.mono_l k
  ·intro y0 y1 y2
   unfold Zaw.l0
   repeat' (first | (with_reducible first | exact ih0 _ _ _ | exact Zah.mono _ _ _ | exact LeO.refl _ | exact LeO.none _ | refine LeO.ite ?_ ?_ | refine LeO.bind ?_ (fun _ => ?_)) | exact ih0 _ _ _ | exact Zah.mono _ _ _ | exact LeO.none _ | refine LeO.ite ?_ ?_ | refine LeO.bind ?_ (fun _ => ?_))
theorem Zaw.mono : ∀ a0 k, LeO (Zaw.f k a0) (Zaw.f (k + 1) a0) := by
 intro a0 k
 have ih0 := Zaw.mono_l k
 unfold Zaw.f
 repeat' (first | (with_reducible first | exact ih0 _ _ _ | exact LeO.refl _ | exact LeO.none _ | refine LeO.ite ?_ ?_ | refine LeO.bind ?_ (fun _ => ?_)) | exact ih0 _ _ _ | exact LeO.none _ | refine LeO.ite ?_ ?_ | refine LeO.bind ?_ (fun _ => ?_))
theorem Zaw.calls (k : Nat) (A0 : Option Addr) (c0 : Nat) (l0 : List Int) (r : List Int) (w : World) (hr0 : Kd.C (Kd.int .i64) w A0 l0.length l0) (hc0 : l0.length ≤ c0) (h : Zaw.f k l0 = some r) :
  Calls Try.prog 84 #[.slice A0 l0.length c0] w fun e w' => ∃ v0_ : Value, e = .returned (v0_) ∧ Kd.R (Kd.int .i64) 3 w' w.heap.size (fun _ => True) v0_ r ∧ Below w.heap.size w w' := by
 have HR0 := Aside0.mk hr0
 have HC0 := Aside0.mk hc0
 clear hr0 hc0
 have HB := Aside0.mk (Below.refl w.heap.size w)
 have H := h
 unfold Zaw.f at H
 clear h
 have H' := Aside0.mk H
 clear H
 go_enter Try.func84, Try.ntmps84
 go_wp2
 go_loopg [3, 4] k (fun kq v3 v4 w' => ∃ (x3_1 : List Int) (x4_1 : Int), v4 = .int .i64 x4_1 ∧ Aside0 (Zaw.l0 kq l0 x3_1 x4_1 = some r) ∧ Aside0 (kq ≤ k) ∧ Aside0 (Kd.R (Kd.int .i64) 3 w' w.heap.size (fun _ => True) v3 x3_1) ∧ Aside0 (Below w.heap.size w w'))
 case atStart => exact ⟨(([] : List Int)), (1), eqd, H', ⟨Nat.le_refl _⟩, ⟨by first | exact Kd.R_nil _ _ _ _ _ | exact Kd.N_nil _ _ _ _ _ | exact Kd.V_nil _ _ _ _ _ | exact Kd.Q_nil _ _ _ _ _ | exact Kd.S_nil _ _ _ _ _⟩, ⟨atB HB⟩⟩
 case round =>
  clear H'
  obtain ⟨x3_1, x4_1, rfl, HA, HK1, HO_3, HB⟩ := hrel
  cases gk with
  | zero => exact absurd HA.out (by simp [Zaw.l0])
  | succ k1 =>
   have H := HA.out
   clear HA
   simp only [Zaw.l0] at H
   by_cases c2 : x4_1 ≤ 20
   rotate_left
   ·rw [if_neg c2] at H
    have c2b0 := decide_eq_false c2
    clear c2
    obtain rfl := Option.some.inj H
    go_wp2
    go_ret
    exact ⟨_, eqr, atR HO_3, atB HB⟩
   rw [if_pos c2] at H
   have c2b0 := decide_eq_true c2
   clear c2
   obtain ⟨t579, A3, H⟩ := bs_ H
   (try dsimp only at H)
   by_cases c4 : t579 = true
   rotate_left
   ·replace c4 := Bool.eq_false_iff.mpr c4
    subst c4
    replace H := if_ H
    have H' := Aside0.mk H
    clear H
    go_wp2_with (first | ((with_reducible refine gate_callee (f := 63) rfl ?_); refine goesA (some 11) Try.func63 #[.slice A0 l0.length c0, .int .i64 x4_1] ?_; (with_reducible refine (Zah.calls k1 _ _ l0 x4_1 false _ ?side1 ?side2 A3.out).mono ?_); (case side1 => repeat (first | exact (Kd.C_below HR0.out HB.out) | (with_reducible refine Kd.C_alloc ?_ _) | (with_reducible refine Kd.C_drewN ?_ _) | (with_reducible refine Kd.C_drew ?_))); (case side2 => exact HC0.out); rintro e w' ⟨rfl, ⟨nd, rfl⟩⟩; refine ⟨_, rfl, ?_⟩))
    go_roundg k1
    case measure => have := HK1.out; omega
    case rel => exact ⟨(x3_1), (wrap64 (x4_1 + 1)), eqd, H', ⟨by have := HK1.out; omega⟩, ⟨atR HO_3⟩, ⟨atB HB⟩⟩
   subst c4
   replace H := it_ H
   obtain ⟨c5, H⟩ := in0_ H
   have LMc5 := Aside0.mk c5
   clear c5
   obtain ⟨y580, hy580⟩ : ∃ y_ : List Int, y_ = (x3_1 ++ [x4_1]) := ⟨_, rfl⟩
   replace H : (Zaw.l0 k1 l0 y580 (wrap64 (x4_1 + 1))) = some r := by first | (rw [hy580]; with_reducible exact H) | (have H2_ := (Option.bind_some _ _).symm.trans H; rw [hy580]; with_reducible exact H2_) | (have H2_ := (Option.bind_some _ _).symm.trans H; with_reducible exact H2_) | with_reducible exact H | (rw [hy580]; exact H) | exact H
   have Ny580 := Aside0.mk hy580
   clear hy580
   have H' := Aside0.mk H
   clear H
   go_wp2_with (first | ((with_reducible refine gate_callee (f := 63) rfl ?_); refine goesA (some 11) Try.func63 #[.slice A0 l0.length c0, .int .i64 x4_1] ?_; (with_reducible refine (Zah.calls k1 _ _ l0 x4_1 true _ ?side1 ?side2 A3.out).mono ?_); (case side1 => repeat (first | exact (Kd.C_below HR0.out HB.out) | (with_reducible refine Kd.C_alloc ?_ _) | (with_reducible refine Kd.C_drewN ?_ _) | (with_reducible refine Kd.C_drew ?_))); (case side2 => exact HC0.out); rintro e w' ⟨rfl, ⟨nd, rfl⟩⟩; refine ⟨_, rfl, ?_⟩) | ((with_reducible refine gate_builtin (b := .append) (xs := #[.tmp 12, .tmp 14]) rfl ?_); at_builtin; refine Kd.R_append (Kd.int .i64) (w0 := w) w.heap.size rfl (.tmp 12) (.tmp 14) 24 3 (.int .i64 0) 8 rfl Try.underlying24 info3 rfl (by decide) (by omega) u3 x3_1 x4_1 [.int .i64 x4_1] (fun _ => True) (fun _ => False) rfl rfl ?aP (fun _ hk => hk.elim) ?aF ?aO ?aB ?aS ?aL ?_; (case aP => exact rfl); (case aB => exact (atB HB)); (case aF => exact (fun _ _ => trivial)); (case aO => exact (atR HO_3)); (case aS => exact (szB HB)); (case aL => have := LMc5.out; omega); intro v581 w6 ho hb hg hat; rw [← Ny580.out] at ho; have HO582 := Aside0.mk (ho); replace HB := Aside0.mk (hb); clear HO_3; clear ho hb hg hat))
   go_roundg k1
   case measure => have := HK1.out; omega
   case rel => exact ⟨(y580), (wrap64 (x4_1 + 1)), eqd, H', ⟨by have := HK1.out; omega⟩, ⟨atR HO582⟩, ⟨atB HB⟩⟩
noncomputable def Zaw.L0 (x0 : List Int) (x3 : List Int) (x4 : Int) : Option (List Int) := lim fun k => Zaw.l0 k x0 x3 x4
theorem Zaw.L0_lim (x0 : List Int) (x3 : List Int) (x4 : Int) : Lim (fun k => Zaw.l0 k x0 x3 x4) (Zaw.L0 x0 x3 x4) := Lim.of fun k => (Zaw.mono_l k) x0 x3 x4
noncomputable def Zaw.F (l0 : List Int) : Option (List Int) := lim fun k => Zaw.f k l0
theorem Zaw.F_lim (l0 : List Int) : Lim (fun k => Zaw.f k l0) (Zaw.F l0) := Lim.of fun k => Zaw.mono l0 k
theorem Zaw.L0_eq (x0 : List Int) (x3 : List Int) (x4 : Int) : Zaw.L0 x0 x3 x4 = (if x4 ≤ 20 then ((Zah.F x0 x4).bind fun t579 => (if t579 = true then (if x3.length < 17592186044416 then (Zaw.L0 x0 (x3 ++ [x4]) (wrap64 (x4 + 1))) else (none)) else (Zaw.L0 x0 x3 (wrap64 (x4 + 1))))) else (some x3)) :=
 Lim.step (f := fun k => Zaw.l0 (k + 1) x0 x3 x4) (Zaw.L0_lim x0 x3 x4) (fun _ => rfl) (by
  simp only [Zaw.l0]
  repeat' (first | (with_reducible first | exact Lim.const _ | exact Zaw.L0_lim _ _ _ | exact Zah.F_lim _ _ | refine Lim.ite ?_ ?_ | refine Lim.bind ?_ (fun _ => ?_))))
theorem Zaw.F_eq (l0 : List Int) : Zaw.F l0 = (Zaw.L0 l0 ([] : List Int) 1) :=
 Lim.unique (Zaw.F_lim l0) (by
  unfold Zaw.f
  repeat' (first | (with_reducible first | exact Lim.const _ | exact Zaw.L0_lim _ _ _ | refine Lim.ite ?_ ?_ | refine Lim.bind ?_ (fun _ => ?_))))
def Zbe.l0 : Nat → Int → List Int → List Int → Int → Int → Option (Int × Bool)
 | 0, _, _, _, _, _ => none
 | k + 1, x1, x6, x11, x12, x13 => if x13 < x12 then (if 0 ≤ x13 then (if x13 < (x11.length : Int) then (if (rd x11 x13) = (wrap64 (x1 + x13)) then (Zbe.l0 k x1 x6 x11 x12 (wrap64 (x13 + 1))) else (some (0, false))) else (none)) else (none)) else (some ((x6.length : Int), decide ((x6.length : Int) > 0)))
def Zbe.f (k : Nat) (l0 : List Int) (a1 : Int) : Option (Int × Bool) := (Zaw.f k l0).bind fun t583 => (Zbe.l0 k a1 t583 t583 (t583.length : Int) 0)
theorem Zbe.mono_l : ∀ k, (∀ y0 y1 y2 y3 y4, LeO (Zbe.l0 k y0 y1 y2 y3 y4) (Zbe.l0 (k + 1) y0 y1 y2 y3 y4))
 | 0 => fun _ _ _ _ _ r h => by simp [Zbe.l0] at h
 | k + 1 => by
  have ih0 := Zbe.mono_l k
  ·intro y0 y1 y2 y3 y4
   unfold Zbe.l0
   repeat' (first | (with_reducible first | exact ih0 _ _ _ _ _ | exact LeO.refl _ | exact LeO.none _ | refine LeO.ite ?_ ?_ | refine LeO.bind ?_ (fun _ => ?_)) | exact ih0 _ _ _ _ _ | exact LeO.none _ | refine LeO.ite ?_ ?_ | refine LeO.bind ?_ (fun _ => ?_))
theorem Zbe.mono : ∀ a0 a1 k, LeO (Zbe.f k a0 a1) (Zbe.f (k + 1) a0 a1) := by
 intro a0 a1 k
 have ih0 := Zbe.mono_l k
 unfold Zbe.f
 repeat' (first | (with_reducible first | exact ih0 _ _ _ _ _ | exact Zaw.mono _ _ | exact LeO.refl _ | exact LeO.none _ | refine LeO.ite ?_ ?_ | refine LeO.bind ?_ (fun _ => ?_)) | exact ih0 _ _ _ _ _ | exact Zaw.mono _ _ | exact LeO.none _ | refine LeO.ite ?_ ?_ | refine LeO.bind ?_ (fun _ => ?_))
theorem Zbe.calls (k : Nat) (A0 : Option Addr) (c0 : Nat) (l0 : List Int) (a1 : Int) (r1 : Int) (r2 : Bool) (w : World) (hr0 : Kd.C (Kd.int .i64) w A0 l0.length l0) (hc0 : l0.length ≤ c0) (h : Zbe.f k l0 a1 = some (r1, r2)) :
  Calls Try.prog 73 #[.slice A0 l0.length c0, .int .i64 a1] w fun e w' => e = .returned (.tuple #[.int .i64 r1, .bool r2]) ∧ Below w.heap.size w w' := by
 have HR0 := Aside0.mk hr0
 have HC0 := Aside0.mk hc0
 clear hr0 hc0
 have HB := Aside0.mk (Below.refl w.heap.size w)
 have H := h
 unfold Zbe.f at H
 clear h
 obtain ⟨t583, A3, H⟩ := bs_ H
 (try dsimp only at H)
 have H' := Aside0.mk H
 clear H
 go_enter Try.func73, Try.ntmps73
 go_wp2_with (first | ((with_reducible refine gate_callee (f := 84) rfl ?_); refine goesA (some 10) Try.func84 #[.slice A0 l0.length c0] ?_; (with_reducible refine (Zaw.calls k _ _ l0 t583 _ ?side1 ?side2 A3.out).mono ?_); (case side1 => repeat (first | exact HR0.out | (with_reducible refine Kd.C_alloc ?_ _) | (with_reducible refine Kd.C_drewN ?_ _) | (with_reducible refine Kd.C_drew ?_))); (case side2 => exact HC0.out); rintro e w4 ⟨v584, rfl, ho0, hb⟩; refine ⟨_, rfl, ?_⟩; have HO585 := lowR ho0 HB; replace HB := upB HB hb; obtain ⟨Ao5, co5, eo5⟩ := Kd.R_slice HO585.out; subst eo5))
 go_loopg [13] k (fun kq v13 w' => ∃ (x13_1 : Int), v13 = .int .i64 x13_1 ∧ Aside0 (Zbe.l0 kq a1 t583 t583 (t583.length : Int) x13_1 = some (r1, r2)) ∧ Aside0 (kq ≤ k) ∧ Aside0 (Kd.R (Kd.int .i64) 3 w' w.heap.size (fun _ => True) (.slice Ao5 t583.length co5) t583) ∧ Aside0 (Kd.R (Kd.int .i64) 3 w' w.heap.size (fun _ => True) (.slice Ao5 t583.length co5) t583) ∧ Aside0 (Below w.heap.size w w'))
 case atStart => exact ⟨(0), eqd, H', ⟨Nat.le_refl _⟩, ⟨atR HO585⟩, ⟨atR HO585⟩, ⟨atB HB⟩⟩
 case round =>
  clear H'
  obtain ⟨x13_1, rfl, HA, HK1, HO_6, HO_11, HB⟩ := hrel
  cases gk with
  | zero => exact absurd HA.out (by simp [Zbe.l0])
  | succ k1 =>
   have H := HA.out
   clear HA
   simp only [Zbe.l0] at H
   by_cases c6 : x13_1 < (t583.length : Int)
   rotate_left
   ·rw [if_neg c6] at H
    have c6b0 := decide_eq_false c6
    clear c6
    simp only [Option.some.injEq, Prod.mk.injEq] at H
    obtain ⟨rfl, rfl⟩ := H
    go_wp2
    go_ret2
    exact ⟨eqr, atB HB⟩
   rw [if_pos c6] at H
   have c6b0 := decide_eq_true c6
   clear c6
   obtain ⟨c7b0, H⟩ := in_ H
   obtain ⟨c8b0, H⟩ := in_ H
   by_cases c9 : (rd t583 x13_1) = (wrap64 (a1 + x13_1))
   ·rw [if_pos c9] at H
    have c9b0 : ((rd t583 x13_1) == (wrap64 (a1 + x13_1))) = true := beq_iff_eq.mpr c9
    have c9b1 : ((rd t583 x13_1) != (wrap64 (a1 + x13_1))) = false := bne_eq_false_iff_eq.mpr c9
    clear c9
    have H' := Aside0.mk H
    clear H
    have p586 : 0 ≤ (x13_1 : Int) := ofd
    have q586 : x13_1 < (t583.length : Int) := ofd
    obtain ⟨ad586, e586, hx586_0⟩ := Kd.at_int (Kd.R_reads' HO_11.out).2.2 x13_1 p586 q586
    cases e586
    replace p586 := eq_true p586
    replace q586 := eq_true q586
    go_wp2
    go_roundg k1
    case measure => have := HK1.out; omega
    case rel => exact ⟨(wrap64 (x13_1 + 1)), eqd, H', ⟨by have := HK1.out; omega⟩, ⟨atR HO_6⟩, ⟨atR HO_11⟩, ⟨atB HB⟩⟩
   ·rw [if_neg c9] at H
    have c9b0 : ((rd t583 x13_1) == (wrap64 (a1 + x13_1))) = false := beq_eq_false_iff_ne.mpr c9
    have c9b1 : ((rd t583 x13_1) != (wrap64 (a1 + x13_1))) = true := bne_iff_ne.mpr c9
    simp only [Option.some.injEq, Prod.mk.injEq] at H
    obtain ⟨rfl, rfl⟩ := H
    have p586 : 0 ≤ (x13_1 : Int) := ofd
    have q586 : x13_1 < (t583.length : Int) := ofd
    obtain ⟨ad586, e586, hx586_0⟩ := Kd.at_int (Kd.R_reads' HO_11.out).2.2 x13_1 p586 q586
    cases e586
    replace p586 := eq_true p586
    replace q586 := eq_true q586
    go_wp2
    go_ret2
    exact ⟨eqr, atB HB⟩
noncomputable def Zbe.L0 (x1 : Int) (x6 : List Int) (x11 : List Int) (x12 : Int) (x13 : Int) : Option (Int × Bool) := lim fun k => Zbe.l0 k x1 x6 x11 x12 x13
theorem Zbe.L0_lim (x1 : Int) (x6 : List Int) (x11 : List Int) (x12 : Int) (x13 : Int) : Lim (fun k => Zbe.l0 k x1 x6 x11 x12 x13) (Zbe.L0 x1 x6 x11 x12 x13) := Lim.of fun k => (Zbe.mono_l k) x1 x6 x11 x12 x13
noncomputable def Zbe.F (l0 : List Int) (a1 : Int) : Option (Int × Bool) := lim fun k => Zbe.f k l0 a1
theorem Zbe.F_lim (l0 : List Int) (a1 : Int) : Lim (fun k => Zbe.f k l0 a1) (Zbe.F l0 a1) := Lim.of fun k => Zbe.mono l0 a1 k
theorem Zbe.L0_eq (x1 : Int) (x6 : List Int) (x11 : List Int) (x12 : Int) (x13 : Int) : Zbe.L0 x1 x6 x11 x12 x13 = (if x13 < x12 then (if 0 ≤ x13 then (if x13 < (x11.length : Int) then (if (rd x11 x13) = (wrap64 (x1 + x13)) then (Zbe.L0 x1 x6 x11 x12 (wrap64 (x13 + 1))) else (some (0, false))) else (none)) else (none)) else (some ((x6.length : Int), decide ((x6.length : Int) > 0)))) :=
 Lim.step (f := fun k => Zbe.l0 (k + 1) x1 x6 x11 x12 x13) (Zbe.L0_lim x1 x6 x11 x12 x13) (fun _ => rfl) (by
  simp only [Zbe.l0]
  repeat' (first | (with_reducible first | exact Lim.const _ | exact Zbe.L0_lim _ _ _ _ _ | refine Lim.ite ?_ ?_ | refine Lim.bind ?_ (fun _ => ?_))))
theorem Zbe.F_eq (l0 : List Int) (a1 : Int) : Zbe.F l0 a1 = ((Zaw.F l0).bind fun t583 => (Zbe.L0 a1 t583 t583 (t583.length : Int) 0)) :=
 Lim.unique (Zbe.F_lim l0 a1) (by
  unfold Zbe.f
  repeat' (first | (with_reducible first | exact Lim.const _ | exact Zbe.L0_lim _ _ _ _ _ | exact Zaw.F_lim _ | refine Lim.ite ?_ ?_ | refine Lim.bind ?_ (fun _ => ?_))))
def Zcj.f (k : Nat) (l0 : List Int) : Option (Int) := (Zcn.f k l0 0).bind fun t587 => (if t587 = true then ((Zbg.f k l0).bind fun t588 => (if (t588.length : Int) > 0 then (some 0) else ((Zbe.f k l0 1).bind fun bt591 => (some bt591.1)))) else (some 0))
theorem Zcj.mono : ∀ a0 k, LeO (Zcj.f k a0) (Zcj.f (k + 1) a0) := by
 intro a0 k
 unfold Zcj.f
 repeat' (first | (with_reducible first | exact Zcn.mono _ _ _ | exact Zbg.mono _ _ | exact Zbe.mono _ _ _ | exact LeO.refl _ | exact LeO.none _ | refine LeO.ite ?_ ?_ | refine LeO.bind ?_ (fun _ => ?_)) | exact Zcn.mono _ _ _ | exact Zbg.mono _ _ | exact Zbe.mono _ _ _ | exact LeO.none _ | refine LeO.ite ?_ ?_ | refine LeO.bind ?_ (fun _ => ?_))
theorem Zcj.calls (k : Nat) (A0 : Option Addr) (c0 : Nat) (l0 : List Int) (r : Int) (w : World) (hr0 : Kd.C (Kd.int .i64) w A0 l0.length l0) (hc0 : l0.length ≤ c0) (h : Zcj.f k l0 = some r) :
  Calls Try.prog 55 #[.slice A0 l0.length c0] w fun e w' => e = .returned (.int .i64 r) ∧ Below w.heap.size w w' := by
 have HR0 := Aside0.mk hr0
 have HC0 := Aside0.mk hc0
 clear hr0 hc0
 have HB := Aside0.mk (Below.refl w.heap.size w)
 have H := h
 unfold Zcj.f at H
 clear h
 obtain ⟨t587, A2, H⟩ := bs_ H
 (try dsimp only at H)
 by_cases c3 : t587 = true
 rotate_left
 ·replace c3 := Bool.eq_false_iff.mpr c3
  subst c3
  replace H := if_ H
  obtain rfl := Option.some.inj H
  go_enter Try.func55, Try.ntmps55
  go_wp2_with (first | ((with_reducible refine gate_callee (f := 71) rfl ?_); refine goesA (some 6) Try.func71 #[.slice A0 l0.length c0, .int .i64 0] ?_; (with_reducible refine (Zcn.calls k _ _ l0 0 false _ ?side1 ?side2 A2.out).mono ?_); (case side1 => repeat (first | exact HR0.out | (with_reducible refine Kd.C_alloc ?_ _) | (with_reducible refine Kd.C_drewN ?_ _) | (with_reducible refine Kd.C_drew ?_))); (case side2 => exact HC0.out); rintro e w14 ⟨rfl, hb⟩; refine ⟨_, rfl, ?_⟩; replace HB := upB HB hb))
  go_ret
  exact ⟨eqr, atB HB⟩
 subst c3
 replace H := it_ H
 obtain ⟨t588, A4, H⟩ := bs_ H
 (try dsimp only at H)
 by_cases c5 : (t588.length : Int) > 0
 ·rw [if_pos c5] at H
  have c5b0 := decide_eq_true c5
  have c5b1 : decide (0 < t588.length) = true := decide_eq_true (by omega)
  clear c5
  obtain rfl := Option.some.inj H
  go_enter Try.func55, Try.ntmps55
  go_wp2_with (first | ((with_reducible refine gate_callee (f := 71) rfl ?_); refine goesA (some 6) Try.func71 #[.slice A0 l0.length c0, .int .i64 0] ?_; (with_reducible refine (Zcn.calls k _ _ l0 0 true _ ?side1 ?side2 A2.out).mono ?_); (case side1 => repeat (first | exact HR0.out | (with_reducible refine Kd.C_alloc ?_ _) | (with_reducible refine Kd.C_drewN ?_ _) | (with_reducible refine Kd.C_drew ?_))); (case side2 => exact HC0.out); rintro e w6 ⟨rfl, hb⟩; refine ⟨_, rfl, ?_⟩; replace HB := upB HB hb) | (go_at_call 72; (with_reducible refine (Zbg.calls k _ _ l0 t588 _ ?side1 ?side2 A4.out).mono ?_); (case side1 => repeat (first | exact (Kd.C_below HR0.out HB.out) | (with_reducible refine Kd.C_alloc ?_ _) | (with_reducible refine Kd.C_drewN ?_ _) | (with_reducible refine Kd.C_drew ?_))); (case side2 => exact HC0.out); rintro e w7 ⟨v589, rfl, ho0, hb⟩; have HO590 := lowR ho0 HB; replace HB := upB HB hb; obtain ⟨Ao8, co8, eo8⟩ := Kd.R_slice HO590.out; subst eo8))
  go_ret
  exact ⟨eqr, atB HB⟩
 rw [if_neg c5] at H
 have c5b0 := decide_eq_false c5
 have c5b1 : decide (0 < t588.length) = false := decide_eq_false (by omega)
 clear c5
 replace H := Option.bind_eq_some_iff.mp H
 obtain ⟨⟨t591, t592⟩, A90, H⟩ := H
 replace H : (some t591) = some r := H
 have A9 := Aside0.mk A90
 clear A90
 obtain rfl := Option.some.inj H
 go_enter Try.func55, Try.ntmps55
 go_wp2_with (first | ((with_reducible refine gate_callee (f := 71) rfl ?_); refine goesA (some 6) Try.func71 #[.slice A0 l0.length c0, .int .i64 0] ?_; (with_reducible refine (Zcn.calls k _ _ l0 0 true _ ?side1 ?side2 A2.out).mono ?_); (case side1 => repeat (first | exact HR0.out | (with_reducible refine Kd.C_alloc ?_ _) | (with_reducible refine Kd.C_drewN ?_ _) | (with_reducible refine Kd.C_drew ?_))); (case side2 => exact HC0.out); rintro e w10 ⟨rfl, hb⟩; refine ⟨_, rfl, ?_⟩; replace HB := upB HB hb) | (go_at_call 72; (with_reducible refine (Zbg.calls k _ _ l0 t588 _ ?side1 ?side2 A4.out).mono ?_); (case side1 => repeat (first | exact (Kd.C_below HR0.out HB.out) | (with_reducible refine Kd.C_alloc ?_ _) | (with_reducible refine Kd.C_drewN ?_ _) | (with_reducible refine Kd.C_drew ?_))); (case side2 => exact HC0.out); rintro e w11 ⟨v589, rfl, ho0, hb⟩; have HO590 := lowR ho0 HB; replace HB := upB HB hb; obtain ⟨Ao12, co12, eo12⟩ := Kd.R_slice HO590.out; subst eo12) | ((with_reducible refine gate_callee (f := 73) rfl ?_); refine goesA (some 16) Try.func73 #[.slice A0 l0.length c0, .int .i64 1] ?_; (with_reducible refine (Zbe.calls k _ _ l0 1 t591 t592 _ ?side1 ?side2 A9.out).mono ?_); (case side1 => repeat (first | exact (Kd.C_below HR0.out HB.out) | (with_reducible refine Kd.C_alloc ?_ _) | (with_reducible refine Kd.C_drewN ?_ _) | (with_reducible refine Kd.C_drew ?_))); (case side2 => exact HC0.out); rintro e w13 ⟨rfl, hb⟩; refine ⟨_, rfl, ?_⟩; replace HO590 := upR HO590 hb; replace HB := upB HB hb))
 go_ret
 exact ⟨eqr, atB HB⟩
noncomputable def Zcj.F (l0 : List Int) : Option (Int) := lim fun k => Zcj.f k l0
theorem Zcj.F_lim (l0 : List Int) : Lim (fun k => Zcj.f k l0) (Zcj.F l0) := Lim.of fun k => Zcj.mono l0 k
theorem Zcj.F_eq (l0 : List Int) : Zcj.F l0 = ((Zcn.F l0 0).bind fun t587 => (if t587 = true then ((Zbg.F l0).bind fun t588 => (if (t588.length : Int) > 0 then (some 0) else ((Zbe.F l0 1).bind fun bt591 => (some bt591.1)))) else (some 0))) :=
 Lim.unique (Zcj.F_lim l0) (by
  unfold Zcj.f
  repeat' (first | (with_reducible first | exact Lim.const _ | exact Zcn.F_lim _ _ | exact Zbg.F_lim _ | exact Zbe.F_lim _ _ | refine Lim.ite ?_ ?_ | refine Lim.bind ?_ (fun _ => ?_))))
theorem arr21_cellL {w : World} {g : Nat} {V : Nat → Value} {ty : TypeId} (h : w.heap[g]? = some (.cells (arr21 V) ty (0, 0))) (k : Nat) (hk : k < 21) : w.cell? ⟨g, k, none⟩ = some (V k) := by
 rw [blk_cell h k]
 exact arr21_get V k hk
def labelsUp (l : List Int) : Nat → List Int
 | 0 => []
 | i + 1 => labelsUp l i ++ atOf l (i + 1)
theorem labelsUp_len (l : List Int) : ∀ i, (labelsUp l i).length ≤ i * l.length
 | 0 => Nat.zero_le _
 | i + 1 => by
  have h1 := labelsUp_len l i
  have h2 := atOf_len l (i + 1)
  show (labelsUp l i ++ atOf l (i + 1)).length ≤ _
  rw [List.length_append, Nat.succ_mul]
  omega
def Zcb.f (k : Nat) (l0 : List Int) : Option (List Int × Bool) :=
 (Zcj.f k l0).bind fun n => if n = 0 then some ([], false) else if (1 ≤ n ∧ n ≤ 20) ∧ l0.length ≤ 40 ∧ ∀ x ∈ l0, 0 ≤ x ∧ x ≤ 20 then some (labelsUp l0 n.toNat, true) else none
theorem Zcb.mono : ∀ l0 k, LeO (Zcb.f k l0) (Zcb.f (k + 1) l0) := fun l0 k => LeO.bind (Zcj.mono _ _) (fun _ => LeO.refl _)
noncomputable def Zcb.F (l0 : List Int) : Option (List Int × Bool) :=
 (Zcj.F l0).bind fun n => if n = 0 then some ([], false) else if (1 ≤ n ∧ n ≤ 20) ∧ l0.length ≤ 40 ∧ ∀ x ∈ l0, 0 ≤ x ∧ x ≤ 20 then some (labelsUp l0 n.toNat, true) else none
theorem Zcb.F_lim {l0 : List Int} : Lim (fun k => Zcb.f k l0) (Zcb.F l0) := Lim.bind (Zcj.F_lim l0) (fun _ => Lim.const _)
theorem Zcb.calls (k : Nat) (A0 : Option Addr) (c0 : Nat) (l0 : List Int) (r1 : List Int) (r2 : Bool) (w : World) (hr0 : Kd.C (Kd.int .i64) w A0 l0.length l0) (hc0 : l0.length ≤ c0) (h : Zcb.f k l0 = some (r1, r2)) :
  Calls Try.prog 30 #[.slice A0 l0.length c0] w fun e w' => ∃ v0_ : Value, e = .returned (.tuple #[v0_, .bool r2]) ∧ Kd.R (Kd.int .i64) 3 w' w.heap.size (fun _ => True) v0_ r1 ∧ Below w.heap.size w w' := by
 have HR0 := Aside0.mk hr0
 have HC0 := Aside0.mk hc0
 unfold Zcb.f at h
 obtain ⟨n, ht, h⟩ := Option.bind_eq_some_iff.1 h
 have HT := Aside0.mk ht
 clear hr0 hc0 ht
 by_cases hn : n = 0
 ·rw [if_pos hn] at h
  obtain ⟨rfl, rfl⟩ := Prod.mk.inj (Option.some.inj h)
  have b1 : (n == 0) = true := beq_iff_eq.mpr hn
  clear h hn
  go_enter Try.func30, Try.ntmps30
  go_wp2_with (first | ((with_reducible refine gate_callee (f := 55) rfl ?_); refine goesA (some 10) Try.func55 #[.slice A0 l0.length c0] ?_; refine (Zcj.calls k A0 c0 l0 n w HR0.out HC0.out HT.out).mono ?_; rintro e w0 ⟨rfl, hB⟩; refine ⟨_, rfl, ?_⟩; have HB0 := Aside0.mk hB; clear hB))
  go_ret2
  exact ⟨_, rfl, Kd.R_nil _ _ _ _ _, HB0.out⟩
 rw [if_neg hn] at h
 split at h
 case isFalse => cases h
 rename_i hg
 obtain ⟨rfl, rfl⟩ := Prod.mk.inj (Option.some.inj h)
 have b1 : (n == 0) = false := beq_eq_false_iff_ne.mpr hn
 have HG := Aside0.mk hg.2
 obtain ⟨nn, rfl⟩ : ∃ nn : Nat, n = nn := ⟨n.toNat, by omega⟩
 have HNN := Aside0.mk (show 1 ≤ nn ∧ nn ≤ 20 by omega)
 rw [Int.toNat_natCast]
 clear h hn hg
 go_enter Try.func30, Try.ntmps30
 go_wp2_with (first | ((with_reducible refine gate_callee (f := 55) rfl ?_); refine goesA (some 10) Try.func55 #[.slice A0 l0.length c0] ?_; refine (Zcj.calls k A0 c0 l0 (nn : Int) w HR0.out HC0.out HT.out).mono ?_; rintro e w0 ⟨rfl, hB⟩; refine ⟨_, rfl, ?_⟩; have HB0 := Aside0.mk hB; clear hB) | (go_at_call 56; refine (Zdd.calls _ _ l0 _ (Kd.C_below HR0.out HB0.out) HG.out.1 HG.out.2).mono ?_; rintro e w1 ⟨V, rfl, hV, hB⟩; have HV := Aside0.mk hV; have HALL := Aside0.mk (arr21_oneCell hV); have HB := Aside0.mk (below_step HB0.out hB); clear hV hB) | ((with_reducible refine gate_store (t := 56) (p := 5) rfl ?_); refine wpList_store_row rfl 56 (.tmp 5) (.tmp 16) rfl w1.heap.size (arr21 V) rfl rfl 56 _ (heap_alloc_new _ _) (by rw [arr21_size]; kernel_rfl) (by rw [arr21_size]; rfl) HALL.out ?_; have hW1 := below_setRow (below_alloc HB.out (.cells #[.slice none 0 0, .slice none 0 0, .slice none 0 0, .slice none 0 0, .slice none 0 0, .slice none 0 0, .slice none 0 0, .slice none 0 0, .slice none 0 0, .slice none 0 0, .slice none 0 0, .slice none 0 0, .slice none 0 0, .slice none 0 0, .slice none 0 0, .slice none 0 0, .slice none 0 0, .slice none 0 0, .slice none 0 0, .slice none 0 0, .slice none 0 0] 56)) (below_size HB.out) (arr21 V); have hW2 := fun k hk => arr21_R_setRow (HV.out k hk) (.cells #[.slice none 0 0, .slice none 0 0, .slice none 0 0, .slice none 0 0, .slice none 0 0, .slice none 0 0, .slice none 0 0, .slice none 0 0, .slice none 0 0, .slice none 0 0, .slice none 0 0, .slice none 0 0, .slice none 0 0, .slice none 0 0, .slice none 0 0, .slice none 0 0, .slice none 0 0, .slice none 0 0, .slice none 0 0, .slice none 0 0, .slice none 0 0] 56) (arr21 V); have hW3 := setRow_heap (w1.alloc (.cells #[.slice none 0 0, .slice none 0 0, .slice none 0 0, .slice none 0 0, .slice none 0 0, .slice none 0 0, .slice none 0 0, .slice none 0 0, .slice none 0 0, .slice none 0 0, .slice none 0 0, .slice none 0 0, .slice none 0 0, .slice none 0 0, .slice none 0 0, .slice none 0 0, .slice none 0 0, .slice none 0 0, .slice none 0 0, .slice none 0 0, .slice none 0 0] 56)) w1.heap.size _ (arr21 V) 56 (0, 0) (heap_alloc_new _ _); generalize World.setRow _ w1.heap.size (arr21 V) = W at hW1 hW2 hW3 ⊢; have HW1 := Aside0.mk hW1; have HW2 := Aside0.mk hW2; have HW3 := Aside0.mk hW3; clear hW1 hW2 hW3 HV HB HALL))
 go_loopw [7, 8] (fun v7 v8 wr => ∃ i j : Nat, j = i + 1 ∧ i ≤ nn ∧ v8 = .int .i64 (j : Int) ∧ Aside0 (Kd.R (Kd.int .i64) 3 wr W.heap.size (fun _ => True) v7 (labelsUp l0 i)) ∧ Aside0 (Below W.heap.size W wr)) (fun _ v8 _ => nn + 1 - (intOf v8).toNat)
 case atStart => exact ⟨0, 1, rfl, Nat.zero_le _, rfl, ⟨Kd.R_nil _ _ _ _ _⟩, ⟨Below.refl _ _⟩⟩
 case round =>
  obtain ⟨i, j, hj, hi, rfl, HR7, HB7⟩ := hrel
  have h20 := HNN.out
  by_cases hlt : i < nn
  rotate_left
  ·obtain rfl : i = nn := by omega
   have c1 : decide ((j : Int) ≤ (i : Int)) = false := decide_eq_false (by omega)
   have c1n : decide (j ≤ i) = false := decide_eq_false (by omega)
   obtain ⟨A3, c3, e3⟩ := Kd.R_slice HR7.out
   subst e3
   clear hlt hi hj
   go_wp2
   go_ret2
   exact ⟨_, rfl, Kd.R_lower HR7.out HW1.out.size, HW1.out.trans (HB7.out.mono HW1.out.size)⟩
  have HI := Aside0.mk hlt
  have HJ := Aside0.mk hj
  have hjn : j ≤ nn := by omega
  have hj21 : j < 21 := by omega
  have c1 : decide ((j : Int) ≤ (nn : Int)) = true := decide_eq_true (by omega)
  have c1n := decide_eq_true hjn
  have p1 : decide (0 ≤ (j : Int)) = true := decide_eq_true (by omega)
  have p2 : decide ((j : Int) < 21) = true := decide_eq_true (by omega)
  have p3 : (0 ≤ (j : Int)) = True := eq_true (by omega)
  have p4 : ((j : Int) < 21) = True := eq_true (by omega)
  have p5 := decide_eq_true hj21
  have hjt : ((j : Int)).toNat = j := by omega
  obtain ⟨xs, hxs⟩ : ∃ xs, labelsUp l0 i = xs := ⟨_, rfl⟩
  obtain ⟨ys, hys⟩ : ∃ ys, atOf l0 j = ys := ⟨_, rfl⟩
  obtain ⟨nx, hnx⟩ : ∃ nx, xs ++ ys = nx := ⟨_, rfl⟩
  have HN2 := Aside0.mk hnx
  have HNX := Aside0.mk (show labelsUp l0 (i + 1) = nx by rw [← hnx, ← hxs, ← hys, hj]; rfl)
  have HLX := Aside0.mk (show xs.length ≤ 800 by rw [← hxs]; have h1 := labelsUp_len l0 i; have h2 := HG.out.1; have h3 : i * l0.length ≤ 20 * 40 := Nat.mul_le_mul (by omega) h2; omega)
  have HLY := Aside0.mk (show ys.length ≤ 40 by rw [← hys]; have h1 := atOf_len l0 j; have h2 := HG.out.1; omega)
  have hc_ := arr21_cellL (blk_below HW3.out HB7.out) j hj21
  have HVJ := Aside0.mk (Kd.R_below (HW2.out j hj21) HB7.out)
  rw [hys] at HVJ
  rw [hxs] at HR7
  obtain ⟨Av, cv, ev⟩ := Kd.R_slice HVJ.out
  rw [ev] at hc_ HVJ
  obtain ⟨A3, c3, e3⟩ := Kd.R_slice HR7.out
  subst e3
  clear hi hj hxs hys ev hnx
  go_wp2_with (first | ((with_reducible refine gate_builtin (b := .append) (xs := #[.tmp 23, .tmp 26]) rfl ?_); at_builtin; refine Kd.R_append_rows (Kd.int .i64) (w0 := W) W.heap.size rfl (.tmp 23) (.tmp 26) 24 3 (.int .i64 0) 8 rfl Try.underlying24 info3 rfl (by decide) (by omega) (.slice A3 xs.length c3) xs ys Av _ _ (fun _ => True) (fun _ => False) rfl rfl ?aO ?aR (fun _ _ h => h) (fun _ h => h.elim) (fun _ _ => trivial) ?aB ?aS ?aL ?_; (case aO => exact HR7.out); (case aR => exact (Kd.R_reads' HVJ.out).2.2); (case aB => exact HB7.out); (case aS => exact HB7.out.size); (case aL => have := HLX.out; have := HLY.out; omega); intro v5 w5 ho5 hb5 hg5 ha5; rw [HN2.out] at ho5; obtain ⟨A5, c5, e5⟩ := Kd.R_slice ho5; subst e5; have HR5 := Aside0.mk ho5; have HB5 := Aside0.mk hb5; clear ho5 hb5 hg5 ha5))
  go_roundw
  case rel => exact ⟨i + 1, j + 1, by have := HJ.out; omega, HI.out, by go_num, ⟨by rw [HNX.out]; exact HR5.out⟩, HB5⟩
  case measure => simp [intOf]; have := HI.out; have := HJ.out; omega
def Zci.f (k : Nat) (l0 : List Int) : Option (Bool) := if (l0.length : Int) ≤ 40 then ((Zba.f k l0 0 20).bind fun t593 => (some t593)) else (some false)
theorem Zci.mono : ∀ a0 k, LeO (Zci.f k a0) (Zci.f (k + 1) a0) := by
 intro a0 k
 unfold Zci.f
 repeat' (first | (with_reducible first | exact Zba.mono _ _ _ _ | exact LeO.refl _ | exact LeO.none _ | refine LeO.ite ?_ ?_ | refine LeO.bind ?_ (fun _ => ?_)) | exact Zba.mono _ _ _ _ | exact LeO.none _ | refine LeO.ite ?_ ?_ | refine LeO.bind ?_ (fun _ => ?_))
theorem Zci.calls (k : Nat) (A0 : Option Addr) (c0 : Nat) (l0 : List Int) (r : Bool) (w : World) (hr0 : Kd.C (Kd.int .i64) w A0 l0.length l0) (hc0 : l0.length ≤ c0) (h : Zci.f k l0 = some r) :
  Calls Try.prog 74 #[.slice A0 l0.length c0] w fun e w' => e = .returned (.bool r) ∧ Drawn0 w w' := by
 have HR0 := Aside0.mk hr0
 have HC0 := Aside0.mk hc0
 clear hr0 hc0
 have H := h
 unfold Zci.f at H
 clear h
 by_cases c2 : (l0.length : Int) ≤ 40
 rotate_left
 ·rw [if_neg c2] at H
  have c2b0 := decide_eq_false c2
  have c2b1 : decide (l0.length ≤ 40) = false := decide_eq_false (by omega)
  clear c2
  obtain rfl := Option.some.inj H
  go_enter Try.func74, Try.ntmps74
  go_wp2
  go_ret
  exact ⟨by first | rfl | (simp; done) | (simp [*]; done), by repeat (first | exact Drawn0.refl _ | apply Drawn0.step)⟩
 rw [if_pos c2] at H
 have c2b0 := decide_eq_true c2
 have c2b1 : decide (l0.length ≤ 40) = true := decide_eq_true (by omega)
 clear c2
 obtain ⟨t593, A3, H⟩ := bs_ H
 (try dsimp only at H)
 obtain rfl := Option.some.inj H
 go_enter Try.func74, Try.ntmps74
 go_wp2_with (first | (go_at_call 50; (with_reducible refine (Zba.calls k _ _ l0 0 20 t593 _ ?side1 ?side2 A3.out).mono ?_); (case side1 => repeat (first | exact HR0.out | (with_reducible refine Kd.C_alloc ?_ _) | (with_reducible refine Kd.C_drewN ?_ _) | (with_reducible refine Kd.C_drew ?_))); (case side2 => exact HC0.out); rintro e w' ⟨rfl, ⟨nd, rfl⟩⟩))
 go_ret
 exact ⟨by first | rfl | (simp; done) | (simp [*]; done), by repeat (first | exact Drawn0.refl _ | apply Drawn0.step)⟩
noncomputable def Zci.F (l0 : List Int) : Option (Bool) := lim fun k => Zci.f k l0
theorem Zci.F_lim (l0 : List Int) : Lim (fun k => Zci.f k l0) (Zci.F l0) := Lim.of fun k => Zci.mono l0 k
theorem Zci.F_eq (l0 : List Int) : Zci.F l0 = (if (l0.length : Int) ≤ 40 then ((Zba.F l0 0 20).bind fun t593 => (some t593)) else (some false)) :=
 Lim.unique (Zci.F_lim l0) (by
  unfold Zci.f
  repeat' (first | (with_reducible first | exact Lim.const _ | exact Zba.F_lim _ _ _ | refine Lim.ite ?_ ?_ | refine Lim.bind ?_ (fun _ => ?_))))
def Zax.l0 : Nat → List Int → Int → Option (Bool)
 | 0, _, _ => none
 | k + 1, x0, x3 => if x3 ≤ 20 then ((Zai.f k x0 x3).bind fun t598 => (if (t598.length : Int) = 0 then (Zax.l0 k x0 (wrap64 (x3 + 1))) else (if (t598.length : Int) = 2 then (Zax.l0 k x0 (wrap64 (x3 + 1))) else (some false)))) else (some true)
def Zax.f (k : Nat) (l0 : List Int) : Option (Bool) := Zax.l0 k l0 1
theorem Zax.mono_l : ∀ k, (∀ y0 y1, LeO (Zax.l0 k y0 y1) (Zax.l0 (k + 1) y0 y1))
 | 0 => fun _ _ r h => by simp [Zax.l0] at h
 | k + 1 => by
  have ih0 := Zax.mono_l k
  ·intro y0 y1
   unfold Zax.l0
   repeat' (first | (with_reducible first | exact ih0 _ _ | exact Zai.mono _ _ _ | exact LeO.refl _ | exact LeO.none _ | refine LeO.ite ?_ ?_ | refine LeO.bind ?_ (fun _ => ?_)) | exact ih0 _ _ | exact Zai.mono _ _ _ | exact LeO.none _ | refine LeO.ite ?_ ?_ | refine LeO.bind ?_ (fun _ => ?_))
theorem Zax.mono : ∀ a0 k, LeO (Zax.f k a0) (Zax.f (k + 1) a0) := by
 intro a0 k
 have ih0 := Zax.mono_l k
 unfold Zax.f
 repeat' (first | (with_reducible first | exact ih0 _ _ | exact LeO.refl _ | exact LeO.none _ | refine LeO.ite ?_ ?_ | refine LeO.bind ?_ (fun _ => ?_)) | exact ih0 _ _ | exact LeO.none _ | refine LeO.ite ?_ ?_ | refine LeO.bind ?_ (fun _ => ?_))
theorem Zax.calls (k : Nat) (A0 : Option Addr) (c0 : Nat) (l0 : List Int) (r : Bool) (w : World) (hr0 : Kd.C (Kd.int .i64) w A0 l0.length l0) (hc0 : l0.length ≤ c0) (h : Zax.f k l0 = some r) :
  Calls Try.prog 75 #[.slice A0 l0.length c0] w fun e w' => e = .returned (.bool r) ∧ Below w.heap.size w w' := by
 have HR0 := Aside0.mk hr0
 have HC0 := Aside0.mk hc0
 clear hr0 hc0
 have HB := Aside0.mk (Below.refl w.heap.size w)
 have H := h
 unfold Zax.f at H
 clear h
 have H' := Aside0.mk H
 clear H
 go_enter Try.func75, Try.ntmps75
 go_wp2
 go_loopg [3] k (fun kq v3 w' => ∃ (x3_1 : Int), v3 = .int .i64 x3_1 ∧ Aside0 (Zax.l0 kq l0 x3_1 = some r) ∧ Aside0 (kq ≤ k) ∧ Aside0 (Below w.heap.size w w'))
 case atStart => exact ⟨(1), eqd, H', ⟨Nat.le_refl _⟩, ⟨atB HB⟩⟩
 case round =>
  clear H'
  obtain ⟨x3_1, rfl, HA, HK1, HB⟩ := hrel
  cases gk with
  | zero => exact absurd HA.out (by simp [Zax.l0])
  | succ k1 =>
   have H := HA.out
   clear HA
   simp only [Zax.l0] at H
   by_cases c2 : x3_1 ≤ 20
   rotate_left
   ·rw [if_neg c2] at H
    have c2b0 := decide_eq_false c2
    clear c2
    obtain rfl := Option.some.inj H
    go_wp2
    go_ret
    exact ⟨eqr, atB HB⟩
   rw [if_pos c2] at H
   have c2b0 := decide_eq_true c2
   clear c2
   obtain ⟨t598, A3, H⟩ := bs_ H
   (try dsimp only at H)
   by_cases c4 : (t598.length : Int) = 0
   ·rw [if_pos c4] at H
    have c4b0 : ((t598.length : Int) == 0) = true := beq_iff_eq.mpr c4
    have c4b1 : ((t598.length : Int) != 0) = false := bne_eq_false_iff_eq.mpr c4
    clear c4
    have H' := Aside0.mk H
    clear H
    go_wp2_with (first | ((with_reducible refine gate_callee (f := 59) rfl ?_); refine goesA (some 11) Try.func59 #[.slice A0 l0.length c0, .int .i64 x3_1] ?_; (with_reducible refine (Zai.calls k1 _ _ l0 x3_1 t598 _ ?side1 ?side2 A3.out).mono ?_); (case side1 => repeat (first | exact (Kd.C_below HR0.out HB.out) | (with_reducible refine Kd.C_alloc ?_ _) | (with_reducible refine Kd.C_drewN ?_ _) | (with_reducible refine Kd.C_drew ?_))); (case side2 => exact HC0.out); rintro e w5 ⟨v599, rfl, ho0, hb⟩; refine ⟨_, rfl, ?_⟩; have HO600 := lowR ho0 HB; replace HB := upB HB hb; obtain ⟨Ao6, co6, eo6⟩ := Kd.R_slice HO600.out; subst eo6))
    go_roundg k1
    case measure => have := HK1.out; omega
    case rel => exact ⟨(wrap64 (x3_1 + 1)), eqd, H', ⟨by have := HK1.out; omega⟩, ⟨atB HB⟩⟩
   rw [if_neg c4] at H
   have c4b0 : ((t598.length : Int) == 0) = false := beq_eq_false_iff_ne.mpr c4
   have c4b1 : ((t598.length : Int) != 0) = true := bne_iff_ne.mpr c4
   have c4b2 : ¬ (t598 = []) := fun h_ => c4 (by rw [h_]; rfl)
   by_cases c7 : (t598.length : Int) = 2
   rotate_left
   ·rw [if_neg c7] at H
    have c7b0 : ((t598.length : Int) == 2) = false := beq_eq_false_iff_ne.mpr c7
    have c7b1 : ((t598.length : Int) != 2) = true := bne_iff_ne.mpr c7
    obtain rfl := Option.some.inj H
    go_wp2_with (first | ((with_reducible refine gate_callee (f := 59) rfl ?_); refine goesA (some 11) Try.func59 #[.slice A0 l0.length c0, .int .i64 x3_1] ?_; (with_reducible refine (Zai.calls k1 _ _ l0 x3_1 t598 _ ?side1 ?side2 A3.out).mono ?_); (case side1 => repeat (first | exact (Kd.C_below HR0.out HB.out) | (with_reducible refine Kd.C_alloc ?_ _) | (with_reducible refine Kd.C_drewN ?_ _) | (with_reducible refine Kd.C_drew ?_))); (case side2 => exact HC0.out); rintro e w10 ⟨v599, rfl, ho0, hb⟩; refine ⟨_, rfl, ?_⟩; have HO600 := lowR ho0 HB; replace HB := upB HB hb; obtain ⟨Ao11, co11, eo11⟩ := Kd.R_slice HO600.out; subst eo11))
    go_ret
    exact ⟨eqr, atB HB⟩
   rw [if_pos c7] at H
   have c7b0 : ((t598.length : Int) == 2) = true := beq_iff_eq.mpr c7
   have c7b1 : ((t598.length : Int) != 2) = false := bne_eq_false_iff_eq.mpr c7
   clear c7
   have H' := Aside0.mk H
   clear H
   go_wp2_with (first | ((with_reducible refine gate_callee (f := 59) rfl ?_); refine goesA (some 11) Try.func59 #[.slice A0 l0.length c0, .int .i64 x3_1] ?_; (with_reducible refine (Zai.calls k1 _ _ l0 x3_1 t598 _ ?side1 ?side2 A3.out).mono ?_); (case side1 => repeat (first | exact (Kd.C_below HR0.out HB.out) | (with_reducible refine Kd.C_alloc ?_ _) | (with_reducible refine Kd.C_drewN ?_ _) | (with_reducible refine Kd.C_drew ?_))); (case side2 => exact HC0.out); rintro e w8 ⟨v599, rfl, ho0, hb⟩; refine ⟨_, rfl, ?_⟩; have HO600 := lowR ho0 HB; replace HB := upB HB hb; obtain ⟨Ao9, co9, eo9⟩ := Kd.R_slice HO600.out; subst eo9))
   go_roundg k1
   case measure => have := HK1.out; omega
   case rel => exact ⟨(wrap64 (x3_1 + 1)), eqd, H', ⟨by have := HK1.out; omega⟩, ⟨atB HB⟩⟩
noncomputable def Zax.L0 (x0 : List Int) (x3 : Int) : Option (Bool) := lim fun k => Zax.l0 k x0 x3
theorem Zax.L0_lim (x0 : List Int) (x3 : Int) : Lim (fun k => Zax.l0 k x0 x3) (Zax.L0 x0 x3) := Lim.of fun k => (Zax.mono_l k) x0 x3
noncomputable def Zax.F (l0 : List Int) : Option (Bool) := lim fun k => Zax.f k l0
theorem Zax.F_lim (l0 : List Int) : Lim (fun k => Zax.f k l0) (Zax.F l0) := Lim.of fun k => Zax.mono l0 k
theorem Zax.L0_eq (x0 : List Int) (x3 : Int) : Zax.L0 x0 x3 = (if x3 ≤ 20 then ((Zai.F x0 x3).bind fun t598 => (if (t598.length : Int) = 0 then (Zax.L0 x0 (wrap64 (x3 + 1))) else (if (t598.length : Int) = 2 then (Zax.L0 x0 (wrap64 (x3 + 1))) else (some false)))) else (some true)) :=
 Lim.step (f := fun k => Zax.l0 (k + 1) x0 x3) (Zax.L0_lim x0 x3) (fun _ => rfl) (by
  simp only [Zax.l0]
  repeat' (first | (with_reducible first | exact Lim.const _ | exact Zax.L0_lim _ _ | exact Zai.F_lim _ _ | refine Lim.ite ?_ ?_ | refine Lim.bind ?_ (fun _ => ?_))))
theorem Zax.F_eq (l0 : List Int) : Zax.F l0 = (Zax.L0 l0 1) :=
 Lim.unique (Zax.F_lim l0) (by
  unfold Zax.f
  repeat' (first | (with_reducible first | exact Lim.const _ | exact Zax.L0_lim _ _ | refine Lim.ite ?_ ?_ | refine Lim.bind ?_ (fun _ => ?_))))
def Zcm.f (k : Nat) (l0 : List Int) : Option (Bool) := (Zci.f k l0).bind fun t601 => (if t601 = true then ((Zax.f k l0).bind fun t602 => (some t602)) else (some false))
theorem Zcm.mono : ∀ a0 k, LeO (Zcm.f k a0) (Zcm.f (k + 1) a0) := by
 intro a0 k
 unfold Zcm.f
 repeat' (first | (with_reducible first | exact Zci.mono _ _ | exact Zax.mono _ _ | exact LeO.refl _ | exact LeO.none _ | refine LeO.ite ?_ ?_ | refine LeO.bind ?_ (fun _ => ?_)) | exact Zci.mono _ _ | exact Zax.mono _ _ | exact LeO.none _ | refine LeO.ite ?_ ?_ | refine LeO.bind ?_ (fun _ => ?_))
theorem Zcm.calls (k : Nat) (A0 : Option Addr) (c0 : Nat) (l0 : List Int) (r : Bool) (w : World) (hr0 : Kd.C (Kd.int .i64) w A0 l0.length l0) (hc0 : l0.length ≤ c0) (h : Zcm.f k l0 = some r) :
  Calls Try.prog 57 #[.slice A0 l0.length c0] w fun e w' => e = .returned (.bool r) ∧ Below w.heap.size w w' := by
 have HR0 := Aside0.mk hr0
 have HC0 := Aside0.mk hc0
 clear hr0 hc0
 have HB := Aside0.mk (Below.refl w.heap.size w)
 have H := h
 unfold Zcm.f at H
 clear h
 obtain ⟨t601, A2, H⟩ := bs_ H
 (try dsimp only at H)
 by_cases c3 : t601 = true
 rotate_left
 ·replace c3 := Bool.eq_false_iff.mpr c3
  subst c3
  replace H := if_ H
  obtain rfl := Option.some.inj H
  go_enter Try.func57, Try.ntmps57
  go_wp2_with (first | ((with_reducible refine gate_callee (f := 74) rfl ?_); refine goesA (some 4) Try.func74 #[.slice A0 l0.length c0] ?_; (with_reducible refine (Zci.calls k _ _ l0 false _ ?side1 ?side2 A2.out).mono ?_); (case side1 => repeat (first | exact HR0.out | (with_reducible refine Kd.C_alloc ?_ _) | (with_reducible refine Kd.C_drewN ?_ _) | (with_reducible refine Kd.C_drew ?_))); (case side2 => exact HC0.out); rintro e w' ⟨rfl, ⟨nd, rfl⟩⟩; refine ⟨_, rfl, ?_⟩))
  go_ret
  exact ⟨eqr, atB HB⟩
 subst c3
 replace H := it_ H
 obtain ⟨t602, A4, H⟩ := bs_ H
 (try dsimp only at H)
 obtain rfl := Option.some.inj H
 go_enter Try.func57, Try.ntmps57
 go_wp2_with (first | ((with_reducible refine gate_callee (f := 74) rfl ?_); refine goesA (some 4) Try.func74 #[.slice A0 l0.length c0] ?_; (with_reducible refine (Zci.calls k _ _ l0 true _ ?side1 ?side2 A2.out).mono ?_); (case side1 => repeat (first | exact HR0.out | (with_reducible refine Kd.C_alloc ?_ _) | (with_reducible refine Kd.C_drewN ?_ _) | (with_reducible refine Kd.C_drew ?_))); (case side2 => exact HC0.out); rintro e w' ⟨rfl, ⟨nd, rfl⟩⟩; refine ⟨_, rfl, ?_⟩) | (go_at_call 75; (with_reducible refine (Zax.calls k _ _ l0 t602 _ ?side1 ?side2 A4.out).mono ?_); (case side1 => repeat (first | exact HR0.out | (with_reducible refine Kd.C_alloc ?_ _) | (with_reducible refine Kd.C_drewN ?_ _) | (with_reducible refine Kd.C_drew ?_))); (case side2 => exact HC0.out); rintro e w5 ⟨rfl, hb⟩; replace HB := upB HB hb))
 go_ret
 exact ⟨eqr, atB HB⟩
noncomputable def Zcm.F (l0 : List Int) : Option (Bool) := lim fun k => Zcm.f k l0
theorem Zcm.F_lim (l0 : List Int) : Lim (fun k => Zcm.f k l0) (Zcm.F l0) := Lim.of fun k => Zcm.mono l0 k
theorem Zcm.F_eq (l0 : List Int) : Zcm.F l0 = ((Zci.F l0).bind fun t601 => (if t601 = true then ((Zax.F l0).bind fun t602 => (some t602)) else (some false))) :=
 Lim.unique (Zcm.F_lim l0) (by
  unfold Zcm.f
  repeat' (first | (with_reducible first | exact Lim.const _ | exact Zci.F_lim _ | exact Zax.F_lim _ | refine Lim.ite ?_ ?_ | refine Lim.bind ?_ (fun _ => ?_))))
def Zbd.l0 : Nat → Int → List Int → List Int → Int → Int → Option (Bool)
 | 0, _, _, _, _, _ => none
 | k + 1, x1, x5, x10, x11, x12 => if x12 < x11 then (if 0 ≤ x12 then (if x12 < (x10.length : Int) then (if (rd x10 x12) = (wrap64 (x1 + x12)) then (Zbd.l0 k x1 x5 x10 x11 (wrap64 (x12 + 1))) else (some false)) else (none)) else (none)) else (some (decide ((x5.length : Int) > 0)))
def Zbd.f (k : Nat) (l0 : List Int) (a1 : Int) : Option (Bool) := (Zal.f k l0).bind fun t616 => (Zbd.l0 k a1 t616 t616 (t616.length : Int) 0)
theorem Zbd.mono_l : ∀ k, (∀ y0 y1 y2 y3 y4, LeO (Zbd.l0 k y0 y1 y2 y3 y4) (Zbd.l0 (k + 1) y0 y1 y2 y3 y4))
 | 0 => fun _ _ _ _ _ r h => by simp [Zbd.l0] at h
 | k + 1 => by
  have ih0 := Zbd.mono_l k
  ·intro y0 y1 y2 y3 y4
   unfold Zbd.l0
   repeat' (first | (with_reducible first | exact ih0 _ _ _ _ _ | exact LeO.refl _ | exact LeO.none _ | refine LeO.ite ?_ ?_ | refine LeO.bind ?_ (fun _ => ?_)) | exact ih0 _ _ _ _ _ | exact LeO.none _ | refine LeO.ite ?_ ?_ | refine LeO.bind ?_ (fun _ => ?_))
theorem Zbd.mono : ∀ a0 a1 k, LeO (Zbd.f k a0 a1) (Zbd.f (k + 1) a0 a1) := by
 intro a0 a1 k
 have ih0 := Zbd.mono_l k
 unfold Zbd.f
 repeat' (first | (with_reducible first | exact ih0 _ _ _ _ _ | exact Zal.mono _ _ | exact LeO.refl _ | exact LeO.none _ | refine LeO.ite ?_ ?_ | refine LeO.bind ?_ (fun _ => ?_)) | exact ih0 _ _ _ _ _ | exact Zal.mono _ _ | exact LeO.none _ | refine LeO.ite ?_ ?_ | refine LeO.bind ?_ (fun _ => ?_))
theorem Zbd.calls (k : Nat) (A0 : Option Addr) (c0 : Nat) (l0 : List Int) (a1 : Int) (r : Bool) (w : World) (hr0 : Kd.C (Kd.int .i64) w A0 l0.length l0) (hc0 : l0.length ≤ c0) (h : Zbd.f k l0 a1 = some r) :
  Calls Try.prog 77 #[.slice A0 l0.length c0, .int .i64 a1] w fun e w' => e = .returned (.bool r) ∧ Below w.heap.size w w' := by
 have HR0 := Aside0.mk hr0
 have HC0 := Aside0.mk hc0
 clear hr0 hc0
 have HB := Aside0.mk (Below.refl w.heap.size w)
 have H := h
 unfold Zbd.f at H
 clear h
 obtain ⟨t616, A3, H⟩ := bs_ H
 (try dsimp only at H)
 have H' := Aside0.mk H
 clear H
 go_enter Try.func77, Try.ntmps77
 go_wp2_with (first | ((with_reducible refine gate_callee (f := 85) rfl ?_); refine goesA (some 9) Try.func85 #[.slice A0 l0.length c0] ?_; (with_reducible refine (Zal.calls k _ _ l0 t616 _ ?side1 ?side2 A3.out).mono ?_); (case side1 => repeat (first | exact HR0.out | (with_reducible refine Kd.C_alloc ?_ _) | (with_reducible refine Kd.C_drewN ?_ _) | (with_reducible refine Kd.C_drew ?_))); (case side2 => exact HC0.out); rintro e w4 ⟨v617, rfl, ho0, hb⟩; refine ⟨_, rfl, ?_⟩; have HO618 := lowR ho0 HB; replace HB := upB HB hb; obtain ⟨Ao5, co5, eo5⟩ := Kd.R_slice HO618.out; subst eo5))
 go_loopg [12] k (fun kq v12 w' => ∃ (x12_1 : Int), v12 = .int .i64 x12_1 ∧ Aside0 (Zbd.l0 kq a1 t616 t616 (t616.length : Int) x12_1 = some r) ∧ Aside0 (kq ≤ k) ∧ Aside0 (Kd.R (Kd.int .i64) 3 w' w.heap.size (fun _ => True) (.slice Ao5 t616.length co5) t616) ∧ Aside0 (Kd.R (Kd.int .i64) 3 w' w.heap.size (fun _ => True) (.slice Ao5 t616.length co5) t616) ∧ Aside0 (Below w.heap.size w w'))
 case atStart => exact ⟨(0), eqd, H', ⟨Nat.le_refl _⟩, ⟨atR HO618⟩, ⟨atR HO618⟩, ⟨atB HB⟩⟩
 case round =>
  clear H'
  obtain ⟨x12_1, rfl, HA, HK1, HO_5, HO_10, HB⟩ := hrel
  cases gk with
  | zero => exact absurd HA.out (by simp [Zbd.l0])
  | succ k1 =>
   have H := HA.out
   clear HA
   simp only [Zbd.l0] at H
   by_cases c6 : x12_1 < (t616.length : Int)
   rotate_left
   ·rw [if_neg c6] at H
    have c6b0 := decide_eq_false c6
    clear c6
    obtain rfl := Option.some.inj H
    go_wp2
    go_ret
    exact ⟨eqr, atB HB⟩
   rw [if_pos c6] at H
   have c6b0 := decide_eq_true c6
   clear c6
   obtain ⟨c7b0, H⟩ := in_ H
   obtain ⟨c8b0, H⟩ := in_ H
   by_cases c9 : (rd t616 x12_1) = (wrap64 (a1 + x12_1))
   ·rw [if_pos c9] at H
    have c9b0 : ((rd t616 x12_1) == (wrap64 (a1 + x12_1))) = true := beq_iff_eq.mpr c9
    have c9b1 : ((rd t616 x12_1) != (wrap64 (a1 + x12_1))) = false := bne_eq_false_iff_eq.mpr c9
    clear c9
    have H' := Aside0.mk H
    clear H
    have p619 : 0 ≤ (x12_1 : Int) := ofd
    have q619 : x12_1 < (t616.length : Int) := ofd
    obtain ⟨ad619, e619, hx619_0⟩ := Kd.at_int (Kd.R_reads' HO_10.out).2.2 x12_1 p619 q619
    cases e619
    replace p619 := eq_true p619
    replace q619 := eq_true q619
    go_wp2
    go_roundg k1
    case measure => have := HK1.out; omega
    case rel => exact ⟨(wrap64 (x12_1 + 1)), eqd, H', ⟨by have := HK1.out; omega⟩, ⟨atR HO_5⟩, ⟨atR HO_10⟩, ⟨atB HB⟩⟩
   ·rw [if_neg c9] at H
    have c9b0 : ((rd t616 x12_1) == (wrap64 (a1 + x12_1))) = false := beq_eq_false_iff_ne.mpr c9
    have c9b1 : ((rd t616 x12_1) != (wrap64 (a1 + x12_1))) = true := bne_iff_ne.mpr c9
    obtain rfl := Option.some.inj H
    have p619 : 0 ≤ (x12_1 : Int) := ofd
    have q619 : x12_1 < (t616.length : Int) := ofd
    obtain ⟨ad619, e619, hx619_0⟩ := Kd.at_int (Kd.R_reads' HO_10.out).2.2 x12_1 p619 q619
    cases e619
    replace p619 := eq_true p619
    replace q619 := eq_true q619
    go_wp2
    go_ret
    exact ⟨eqr, atB HB⟩
noncomputable def Zbd.L0 (x1 : Int) (x5 : List Int) (x10 : List Int) (x11 : Int) (x12 : Int) : Option (Bool) := lim fun k => Zbd.l0 k x1 x5 x10 x11 x12
theorem Zbd.L0_lim (x1 : Int) (x5 : List Int) (x10 : List Int) (x11 : Int) (x12 : Int) : Lim (fun k => Zbd.l0 k x1 x5 x10 x11 x12) (Zbd.L0 x1 x5 x10 x11 x12) := Lim.of fun k => (Zbd.mono_l k) x1 x5 x10 x11 x12
noncomputable def Zbd.F (l0 : List Int) (a1 : Int) : Option (Bool) := lim fun k => Zbd.f k l0 a1
theorem Zbd.F_lim (l0 : List Int) (a1 : Int) : Lim (fun k => Zbd.f k l0 a1) (Zbd.F l0 a1) := Lim.of fun k => Zbd.mono l0 a1 k
theorem Zbd.L0_eq (x1 : Int) (x5 : List Int) (x10 : List Int) (x11 : Int) (x12 : Int) : Zbd.L0 x1 x5 x10 x11 x12 = (if x12 < x11 then (if 0 ≤ x12 then (if x12 < (x10.length : Int) then (if (rd x10 x12) = (wrap64 (x1 + x12)) then (Zbd.L0 x1 x5 x10 x11 (wrap64 (x12 + 1))) else (some false)) else (none)) else (none)) else (some (decide ((x5.length : Int) > 0)))) :=
 Lim.step (f := fun k => Zbd.l0 (k + 1) x1 x5 x10 x11 x12) (Zbd.L0_lim x1 x5 x10 x11 x12) (fun _ => rfl) (by
  simp only [Zbd.l0]
  repeat' (first | (with_reducible first | exact Lim.const _ | exact Zbd.L0_lim _ _ _ _ _ | refine Lim.ite ?_ ?_ | refine Lim.bind ?_ (fun _ => ?_))))
theorem Zbd.F_eq (l0 : List Int) (a1 : Int) : Zbd.F l0 a1 = ((Zal.F l0).bind fun t616 => (Zbd.L0 a1 t616 t616 (t616.length : Int) 0)) :=
 Lim.unique (Zbd.F_lim l0 a1) (by
  unfold Zbd.f
  repeat' (first | (with_reducible first | exact Lim.const _ | exact Zbd.L0_lim _ _ _ _ _ | exact Zal.F_lim _ | refine Lim.ite ?_ ?_ | refine Lim.bind ?_ (fun _ => ?_))))
def Zca.f (k : Nat) (l0 : List Int) : Option (Bool) := (Zbc.f k l0 0).bind fun t620 => (if t620 = true then ((Zbd.f k l0 1).bind fun t621 => (if t621 = true then ((Zai.f k l0 0).bind fun t622 => (some ((t622.length : Int) == 0))) else (some false))) else (some false))
theorem Zca.mono : ∀ a0 k, LeO (Zca.f k a0) (Zca.f (k + 1) a0) := by
 intro a0 k
 unfold Zca.f
 repeat' (first | (with_reducible first | exact Zbc.mono _ _ _ | exact Zbd.mono _ _ _ | exact Zai.mono _ _ _ | exact LeO.refl _ | exact LeO.none _ | refine LeO.ite ?_ ?_ | refine LeO.bind ?_ (fun _ => ?_)) | exact Zbc.mono _ _ _ | exact Zbd.mono _ _ _ | exact Zai.mono _ _ _ | exact LeO.none _ | refine LeO.ite ?_ ?_ | refine LeO.bind ?_ (fun _ => ?_))
theorem Zca.calls (k : Nat) (A0 : Option Addr) (c0 : Nat) (l0 : List Int) (r : Bool) (w : World) (hr0 : Kd.C (Kd.int .i64) w A0 l0.length l0) (hc0 : l0.length ≤ c0) (h : Zca.f k l0 = some r) :
  Calls Try.prog 58 #[.slice A0 l0.length c0] w fun e w' => e = .returned (.bool r) ∧ Below w.heap.size w w' := by
 have HR0 := Aside0.mk hr0
 have HC0 := Aside0.mk hc0
 clear hr0 hc0
 have HB := Aside0.mk (Below.refl w.heap.size w)
 have H := h
 unfold Zca.f at H
 clear h
 obtain ⟨t620, A2, H⟩ := bs_ H
 (try dsimp only at H)
 by_cases c3 : t620 = true
 rotate_left
 ·replace c3 := Bool.eq_false_iff.mpr c3
  subst c3
  replace H := if_ H
  obtain rfl := Option.some.inj H
  go_enter Try.func58, Try.ntmps58
  go_wp2_with (first | ((with_reducible refine gate_callee (f := 76) rfl ?_); refine goesA (some 4) Try.func76 #[.slice A0 l0.length c0, .int .i64 0] ?_; (with_reducible refine (Zbc.calls k _ _ l0 0 false _ ?side1 ?side2 A2.out).mono ?_); (case side1 => repeat (first | exact HR0.out | (with_reducible refine Kd.C_alloc ?_ _) | (with_reducible refine Kd.C_drewN ?_ _) | (with_reducible refine Kd.C_drew ?_))); (case side2 => exact HC0.out); rintro e w13 ⟨rfl, hb⟩; refine ⟨_, rfl, ?_⟩; replace HB := upB HB hb))
  go_ret
  exact ⟨eqr, atB HB⟩
 subst c3
 replace H := it_ H
 obtain ⟨t621, A4, H⟩ := bs_ H
 (try dsimp only at H)
 by_cases c5 : t621 = true
 rotate_left
 ·replace c5 := Bool.eq_false_iff.mpr c5
  subst c5
  replace H := if_ H
  obtain rfl := Option.some.inj H
  go_enter Try.func58, Try.ntmps58
  go_wp2_with (first | ((with_reducible refine gate_callee (f := 76) rfl ?_); refine goesA (some 4) Try.func76 #[.slice A0 l0.length c0, .int .i64 0] ?_; (with_reducible refine (Zbc.calls k _ _ l0 0 true _ ?side1 ?side2 A2.out).mono ?_); (case side1 => repeat (first | exact HR0.out | (with_reducible refine Kd.C_alloc ?_ _) | (with_reducible refine Kd.C_drewN ?_ _) | (with_reducible refine Kd.C_drew ?_))); (case side2 => exact HC0.out); rintro e w11 ⟨rfl, hb⟩; refine ⟨_, rfl, ?_⟩; replace HB := upB HB hb) | (go_at_call 77; (with_reducible refine (Zbd.calls k _ _ l0 1 false _ ?side1 ?side2 A4.out).mono ?_); (case side1 => repeat (first | exact (Kd.C_below HR0.out HB.out) | (with_reducible refine Kd.C_alloc ?_ _) | (with_reducible refine Kd.C_drewN ?_ _) | (with_reducible refine Kd.C_drew ?_))); (case side2 => exact HC0.out); rintro e w12 ⟨rfl, hb⟩; replace HB := upB HB hb))
  go_ret
  exact ⟨eqr, atB HB⟩
 subst c5
 replace H := it_ H
 obtain ⟨t622, A6, H⟩ := bs_ H
 (try dsimp only at H)
 obtain rfl := Option.some.inj H
 go_enter Try.func58, Try.ntmps58
 go_wp2_with (first | ((with_reducible refine gate_callee (f := 76) rfl ?_); refine goesA (some 4) Try.func76 #[.slice A0 l0.length c0, .int .i64 0] ?_; (with_reducible refine (Zbc.calls k _ _ l0 0 true _ ?side1 ?side2 A2.out).mono ?_); (case side1 => repeat (first | exact HR0.out | (with_reducible refine Kd.C_alloc ?_ _) | (with_reducible refine Kd.C_drewN ?_ _) | (with_reducible refine Kd.C_drew ?_))); (case side2 => exact HC0.out); rintro e w7 ⟨rfl, hb⟩; refine ⟨_, rfl, ?_⟩; replace HB := upB HB hb) | (go_at_call 77; (with_reducible refine (Zbd.calls k _ _ l0 1 true _ ?side1 ?side2 A4.out).mono ?_); (case side1 => repeat (first | exact (Kd.C_below HR0.out HB.out) | (with_reducible refine Kd.C_alloc ?_ _) | (with_reducible refine Kd.C_drewN ?_ _) | (with_reducible refine Kd.C_drew ?_))); (case side2 => exact HC0.out); rintro e w8 ⟨rfl, hb⟩; replace HB := upB HB hb) | (go_at_call 59; (with_reducible refine (Zai.calls k _ _ l0 0 t622 _ ?side1 ?side2 A6.out).mono ?_); (case side1 => repeat (first | exact (Kd.C_below HR0.out HB.out) | (with_reducible refine Kd.C_alloc ?_ _) | (with_reducible refine Kd.C_drewN ?_ _) | (with_reducible refine Kd.C_drew ?_))); (case side2 => exact HC0.out); rintro e w9 ⟨v623, rfl, ho0, hb⟩; have HO624 := lowR ho0 HB; replace HB := upB HB hb; obtain ⟨Ao10, co10, eo10⟩ := Kd.R_slice HO624.out; subst eo10))
 go_ret
 exact ⟨eqr, atB HB⟩
noncomputable def Zca.F (l0 : List Int) : Option (Bool) := lim fun k => Zca.f k l0
theorem Zca.F_lim (l0 : List Int) : Lim (fun k => Zca.f k l0) (Zca.F l0) := Lim.of fun k => Zca.mono l0 k
theorem Zca.F_eq (l0 : List Int) : Zca.F l0 = ((Zbc.F l0 0).bind fun t620 => (if t620 = true then ((Zbd.F l0 1).bind fun t621 => (if t621 = true then ((Zai.F l0 0).bind fun t622 => (some ((t622.length : Int) == 0))) else (some false))) else (some false))) :=
 Lim.unique (Zca.F_lim l0) (by
  unfold Zca.f
  repeat' (first | (with_reducible first | exact Lim.const _ | exact Zbc.F_lim _ _ | exact Zbd.F_lim _ _ | exact Zai.F_lim _ _ | refine Lim.ite ?_ ?_ | refine Lim.bind ?_ (fun _ => ?_))))
mutual
def Zad.j0 : Nat → List Int → Bool → Option (List Int × Bool)
 | 0, _, _ => none
 | k + 1, x0, x14 => if x14 = true then (some (([] : List Int), false)) else (Zad.l0 k x0 ([] : List Int) 1)
def Zad.l0 : Nat → List Int → List Int → Int → Option (List Int × Bool)
 | 0, _, _, _ => none
 | k + 1, x0, x4, x5 => if x5 ≤ (wrap64 ((x0.length : Int) / 2)) then ((Zai.f k x0 x5).bind fun t627 => (if 0 < (t627.length : Int) then (if 1 < (t627.length : Int) then ((some (([rd t627 0, rd t627 1] : List Int) : List Int)).bind fun y632 => (if x4.length + y632.length < 17592186044416 then (Zad.l0 k x0 (x4 ++ y632) (wrap64 (x5 + 1))) else (none))) else (none)) else (none))) else (some (x4, true))
end
def Zad.f (k : Nat) (l0 : List Int) : Option (List Int × Bool) := (Zcm.f k l0).bind fun t625 => (if t625 = true then ((Zca.f k l0).bind fun t626 => (Zad.j0 k l0 (!t626))) else (Zad.j0 k l0 true))
theorem Zad.mono_l : ∀ k, (∀ y0 y1, LeO (Zad.j0 k y0 y1) (Zad.j0 (k + 1) y0 y1)) ∧ (∀ y0 y1 y2, LeO (Zad.l0 k y0 y1 y2) (Zad.l0 (k + 1) y0 y1 y2))
 | 0 => ⟨fun _ _ r h => by simp [Zad.j0] at h, fun _ _ _ r h => by simp [Zad.l0] at h⟩
 | k + 1 => by
  obtain ⟨ih0, ih1⟩ := Zad.mono_l k
  refine ⟨?_, ?_⟩
  ·intro y0 y1
   unfold Zad.j0
   repeat' (first | (with_reducible first | exact ih1 _ _ _ | exact LeO.refl _ | exact LeO.none _ | refine LeO.ite ?_ ?_ | refine LeO.bind ?_ (fun _ => ?_)) | exact ih1 _ _ _ | exact LeO.none _ | refine LeO.ite ?_ ?_ | refine LeO.bind ?_ (fun _ => ?_))
  ·intro y0 y1 y2
   unfold Zad.l0
   repeat' (first | (with_reducible first | exact ih1 _ _ _ | exact Zai.mono _ _ _ | exact LeO.refl _ | exact LeO.none _ | refine LeO.ite ?_ ?_ | refine LeO.bind ?_ (fun _ => ?_)) | exact ih1 _ _ _ | exact Zai.mono _ _ _ | exact LeO.none _ | refine LeO.ite ?_ ?_ | refine LeO.bind ?_ (fun _ => ?_))
theorem Zad.mono : ∀ a0 k, LeO (Zad.f k a0) (Zad.f (k + 1) a0) := by
 intro a0 k
 obtain ⟨ih0, ih1⟩ := Zad.mono_l k
 unfold Zad.f
 repeat' (first | (with_reducible first | exact ih0 _ _ | exact Zcm.mono _ _ | exact Zca.mono _ _ | exact LeO.refl _ | exact LeO.none _ | refine LeO.ite ?_ ?_ | refine LeO.bind ?_ (fun _ => ?_)) | exact ih0 _ _ | exact Zcm.mono _ _ | exact Zca.mono _ _ | exact LeO.none _ | refine LeO.ite ?_ ?_ | refine LeO.bind ?_ (fun _ => ?_))
def Zad.T8 : Bool × List (List Nat × List Nat) := (true, [([], []), ([], []), ([1], [1]), ([2], [2]), ([], []), ([4], [4]), ([5], [5]), ([3, 6], [3, 6]), ([0, 7], [0, 7]), ([8, 8, 0, 1, 2, 3, 4, 5, 6, 7, 8], [0, 8])])
def Zad.B8 : List Nat := [0, 0, 2, 6, 0, 16, 48, 126, 255, 511]
theorem Zad.tab8 : rtab .any (opsOf Try.f31 8) = Zad.T8 := by kernel_rfl
theorem Zad.bits8 : waitsOk Zad.T8.2 Zad.B8 = true := by kernel_rfl
theorem Zad.calls (k : Nat) (A0 : Option Addr) (c0 : Nat) (l0 : List Int) (r1 : List Int) (r2 : Bool) (w : World) (hr0 : Kd.C (Kd.int .i64) w A0 l0.length l0) (hc0 : l0.length ≤ c0) (h : Zad.f k l0 = some (r1, r2)) :
  Calls Try.prog 31 #[.slice A0 l0.length c0] w fun e w' => ∃ v0_ : Value, e = .returned (.tuple #[v0_, .bool r2]) ∧ Kd.R (Kd.int .i64) 3 w' w.heap.size (fun _ => True) v0_ r1 ∧ Below w.heap.size w w' := by
 have HR0 := Aside0.mk hr0
 have HC0 := Aside0.mk hc0
 clear hr0 hc0
 have HB := Aside0.mk (Below.refl w.heap.size w)
 have H := h
 unfold Zad.f at H
 clear h
 have HC2 := Aside0.mk H
 clear H
 go_enter Try.func31, Try.ntmps31
 go_upto_region 1 with (fail)
 go_cut [14] (fun v14 wc => ∃ (kq : Nat) (x14_1 : Bool), v14 = .bool x14_1 ∧ Aside0 (Zad.j0 kq l0 x14_1 = some (r1, r2)) ∧ Aside0 (kq ≤ k) ∧ Aside0 (Below w.heap.size w wc))
 case first =>
  have H := HC2.out
  clear HC2
  obtain ⟨t625, A3, H⟩ := bs_ H
  (try dsimp only at H)
  by_cases c4 : t625 = true
  rotate_left
  ·replace c4 := Bool.eq_false_iff.mpr c4
   subst c4
   replace H := if_ H
   have H' := Aside0.mk H
   clear H
   go_wp2_with (first | ((with_reducible refine gate_callee (f := 57) rfl ?_); refine goesA (some 8) Try.func57 #[.slice A0 l0.length c0] ?_; (with_reducible refine (Zcm.calls k _ _ l0 false _ ?side1 ?side2 A3.out).mono ?_); (case side1 => repeat (first | exact (Kd.C_below HR0.out HB.out) | (with_reducible refine Kd.C_alloc ?_ _) | (with_reducible refine Kd.C_drewN ?_ _) | (with_reducible refine Kd.C_drew ?_))); (case side2 => exact HC0.out); rintro e w8 ⟨rfl, hb⟩; refine ⟨_, rfl, ?_⟩; replace HB := upB HB hb))
   go_meet
   case rel => exact ⟨_, (true), eqd, H', ⟨leD⟩, ⟨atB HB⟩⟩
  subst c4
  replace H := it_ H
  obtain ⟨t626, A5, H⟩ := bs_ H
  (try dsimp only at H)
  have H' := Aside0.mk H
  clear H
  go_wp2_with (first | ((with_reducible refine gate_callee (f := 57) rfl ?_); refine goesA (some 8) Try.func57 #[.slice A0 l0.length c0] ?_; (with_reducible refine (Zcm.calls k _ _ l0 true _ ?side1 ?side2 A3.out).mono ?_); (case side1 => repeat (first | exact (Kd.C_below HR0.out HB.out) | (with_reducible refine Kd.C_alloc ?_ _) | (with_reducible refine Kd.C_drewN ?_ _) | (with_reducible refine Kd.C_drew ?_))); (case side2 => exact HC0.out); rintro e w6 ⟨rfl, hb⟩; refine ⟨_, rfl, ?_⟩; replace HB := upB HB hb) | (go_at_call 58; (with_reducible refine (Zca.calls k _ _ l0 t626 _ ?side1 ?side2 A5.out).mono ?_); (case side1 => repeat (first | exact (Kd.C_below HR0.out HB.out) | (with_reducible refine Kd.C_alloc ?_ _) | (with_reducible refine Kd.C_drewN ?_ _) | (with_reducible refine Kd.C_drew ?_))); (case side2 => exact HC0.out); rintro e w7 ⟨rfl, hb⟩; replace HB := upB HB hb))
  go_meet
  case rel => exact ⟨_, (!t626), eqd, H', ⟨leD⟩, ⟨atB HB⟩⟩
 case rest =>
  clear HC2
  obtain ⟨kq, x14_1, rfl, HA, HJ1, HB⟩ := hcut
  cases kq with
  | zero => exact absurd HA.out (by simp [Zad.j0])
  | succ kj1 =>
   have H := HA.out
   clear HA
   simp only [Zad.j0] at H
   by_cases c9 : x14_1 = true
   ·subst c9
    replace H := it_ H
    simp only [Option.some.injEq, Prod.mk.injEq] at H
    obtain ⟨rfl, rfl⟩ := H
    go_wp2
    go_ret2
    exact ⟨_, eqr, by first | exact Kd.R_nil _ _ _ _ _ | exact Kd.N_nil _ _ _ _ _ | exact Kd.V_nil _ _ _ _ _ | exact Kd.Q_nil _ _ _ _ _ | exact Kd.S_nil _ _ _ _ _, atB HB⟩
   replace c9 := Bool.eq_false_iff.mpr c9
   subst c9
   replace H := if_ H
   have H' := Aside0.mk H
   clear H
   go_wp2
   go_loopg [4, 5] kj1 (fun kq v4 v5 w' => ∃ (x4_2 : List Int) (x5_2 : Int), v5 = .int .i64 x5_2 ∧ Aside0 (Zad.l0 kq l0 x4_2 x5_2 = some (r1, r2)) ∧ Aside0 (kq ≤ kj1) ∧ Aside0 (Kd.R (Kd.int .i64) 3 w' w.heap.size (fun _ => True) v4 x4_2) ∧ Aside0 (Below w.heap.size w w'))
   case atStart => exact ⟨(([] : List Int)), (1), eqd, H', ⟨Nat.le_refl _⟩, ⟨by first | exact Kd.R_nil _ _ _ _ _ | exact Kd.N_nil _ _ _ _ _ | exact Kd.V_nil _ _ _ _ _ | exact Kd.Q_nil _ _ _ _ _ | exact Kd.S_nil _ _ _ _ _⟩, ⟨atB HB⟩⟩
   case round =>
    clear H'
    try clear c9
    obtain ⟨x4_2, x5_2, rfl, HA, HK2, HO_4, HB⟩ := hrel
    cases gk with
    | zero => exact absurd HA.out (by simp [Zad.l0])
    | succ k2 =>
     have H := HA.out
     clear HA
     simp only [Zad.l0] at H
     by_cases c10 : x5_2 ≤ (wrap64 ((l0.length : Int) / 2))
     rotate_left
     ·rw [if_neg c10] at H
      have c10b0 := decide_eq_false c10
      clear c10
      simp only [Option.some.injEq, Prod.mk.injEq] at H
      obtain ⟨rfl, rfl⟩ := H
      go_wp2
      go_ret2
      exact ⟨_, eqr, atR HO_4, atB HB⟩
     rw [if_pos c10] at H
     have c10b0 := decide_eq_true c10
     clear c10
     obtain ⟨t627, A11, H⟩ := bs_ H
     (try dsimp only at H)
     obtain ⟨c12, H⟩ := in0_ H
     have c12b0 := decide_eq_true c12
     have c12b1 : decide (0 < t627.length) = true := decide_eq_true (by omega)
     clear c12
     obtain ⟨c13, H⟩ := in0_ H
     have c13b0 := decide_eq_true c13
     have c13b1 : decide (1 < t627.length) = true := decide_eq_true (by omega)
     clear c13
     obtain ⟨y632, hy632⟩ : ∃ y_ : List Int, y_ = (([rd t627 0, rd t627 1] : List Int)) := ⟨_, rfl⟩
     replace H : (if x4_2.length + y632.length < 17592186044416 then (Zad.l0 k2 l0 (x4_2 ++ y632) (wrap64 (x5_2 + 1))) else (none)) = some (r1, r2) := by first | (rw [hy632]; with_reducible exact H) | (have H2_ := (Option.bind_some _ _).symm.trans H; rw [hy632]; with_reducible exact H2_) | (have H2_ := (Option.bind_some _ _).symm.trans H; with_reducible exact H2_) | with_reducible exact H | (rw [hy632]; exact H) | exact H
     have Ny632 := Aside0.mk hy632
     clear hy632
     obtain ⟨c14, H⟩ := in0_ H
     have LMc14 := Aside0.mk c14
     clear c14
     obtain ⟨y635, hy635⟩ : ∃ y_ : List Int, y_ = (x4_2 ++ y632) := ⟨_, rfl⟩
     replace H : (Zad.l0 k2 l0 y635 (wrap64 (x5_2 + 1))) = some (r1, r2) := by first | (rw [hy635]; with_reducible exact H) | (have H2_ := (Option.bind_some _ _).symm.trans H; rw [hy635]; with_reducible exact H2_) | (have H2_ := (Option.bind_some _ _).symm.trans H; with_reducible exact H2_) | with_reducible exact H | (rw [hy635]; exact H) | exact H
     have Ny635 := Aside0.mk hy635
     clear hy635
     have H' := Aside0.mk H
     clear H
     try go_wp2_with (first | ((with_reducible refine gate_callee (f := 59) rfl ?_); refine goesA (some 24) Try.func59 #[.slice A0 l0.length c0, .int .i64 x5_2] ?_; (with_reducible refine (Zai.calls k2 _ _ l0 x5_2 t627 _ ?side1 ?side2 A11.out).mono ?_); (case side1 => repeat (first | exact (Kd.C_below HR0.out HB.out) | (with_reducible refine Kd.C_alloc ?_ _) | (with_reducible refine Kd.C_drewN ?_ _) | (with_reducible refine Kd.C_drew ?_))); (case side2 => exact HC0.out); rintro e w15 ⟨v628, rfl, ho0, hb⟩; refine ⟨_, rfl, ?_⟩; have HO629 := Aside0.mk (Kd.R_lower (Kd.R_new' ho0 (ltR HO_4)) (szB HB)); replace HO_4 := eldRR HO_4 ho0 hb; replace HB := upB HB hb))
     have n0_ := Aside0.mk (Kd.R_drew HO_4.out)
     have n1_ := Aside0.mk (Kd.R_drew HO629.out)
     have n2_ := Aside0.mk (below_drew1 HB.out)
     clear HO_4
     clear HO629
     clear HB
     have HO_4 := n0_
     have HO629 := n1_
     have HB := n2_
     clear n0_ n1_ n2_
     obtain ⟨Ao17, co17, eo17⟩ := Kd.R_slice HO629.out
     (first | subst eo17 | (injection eo17 with f1_ f2_ f3_; have f4_ := f1_.symm; have f5_ := f3_.symm; clear f1_ f2_ f3_; subst f4_; subst f5_))
     have p630 : 0 ≤ (0 : Int) := (by omega)
     have q630 : 0 < (t627.length : Int) := ofd
     obtain ⟨ad630, e630, hx630_0⟩ := Kd.at_int (Kd.R_reads' HO629.out).2.2 0 p630 q630
     cases e630
     have qi630 : (0 < t627.length) = True := eq_true (by omega)
     (try rw [show ((0 : Int)).toNat = 0 from rfl] at hx630_0)
     (try rw [Addr.add_zero'] at hx630_0)
     replace p630 := eq_true p630
     replace q630 := eq_true q630
     have p631 : 0 ≤ (1 : Int) := (by omega)
     have q631 : 1 < (t627.length : Int) := ofd
     obtain ⟨ad631, e631, hx631_0⟩ := Kd.at_int (Kd.R_reads' HO629.out).2.2 1 p631 q631
     obtain rfl : ad630 = ad631 := (by injection e631)
     (try simp only [show (1 : Int).toNat = 1 from rfl, Nat.reduceMul, Nat.reduceEqDiff, Go.Addr.add, ↓reduceIte] at hx631_0)
     have qi631 : (1 < t627.length) = True := eq_true (by omega)
     (try rw [show ((1 : Int)).toNat = 1 from rfl] at hx631_0)
     replace p631 := eq_true p631
     replace q631 := eq_true q631
     refine start_ (n := 10) (S := fun w' => w'.cell? ad630 = some (.int .i64 (rd t627 0)) ∧ w'.cell? ⟨ad630.block, ad630.off + 1, none⟩ = some (.int .i64 (rd t627 1))) (ds := [8]) #[false, false, false, false, false, false, false, false, false, false] (by kernel_rfl) rfl rfl ⟨hx630_0, hx631_0⟩ (fun hHeld => ?_); refine with_tabW Zad.tab8 Zad.bits8 (fun HT_ HW_ => ?_)
     generalize w15.drew = w16 at HO_4 HO629 HB hx630_0 hx631_0 hHeld ⊢
     refine pure_ (i := 0) (N := some 25) (v := ?_) (a' := ?_) #[true, false, false, false, false, false, false, false, false, false] rfl rfl (any_of HT_.out (by kernel_rfl)) (fun _ _ _ h => h) (Or.inl ⟨by rfl, ?_⟩) ?_ ?_
     rotate_left
     ·intro w'
      go_simp
      with_reducible rfl
     rotate_left
     ·simp only [Act.put, List.setIfInBounds_toArray, List.set_cons_zero, List.set_cons_succ, i64_w, i32_w]
      rfl
     refine pure_ (i := 1) (N := some 26) (v := ?_) (a' := ?_) #[true, true, false, false, false, false, false, false, false, false] rfl rfl (any_of HT_.out (by kernel_rfl)) (fun _ _ _ h => h) (Or.inl ⟨by rfl, ?_⟩) ?_ ?_
     rotate_left
     ·intro w'
      go_simp
      with_reducible rfl
     rotate_left
     ·simp only [Act.put, List.setIfInBounds_toArray, List.set_cons_zero, List.set_cons_succ, i64_w, i32_w]
      rfl
     refine pure_ (i := 2) (N := some 27) (v := ?_) (a' := ?_) #[true, true, true, false, false, false, false, false, false, false] rfl rfl (any_of HT_.out (by kernel_rfl)) (fun _ _ _ h => h) (Or.inl ⟨by rfl, ?_⟩) ?_ ?_
     rotate_left
     ·intro w'
      go_simp
      with_reducible rfl
     rotate_left
     ·simp only [Act.put, List.setIfInBounds_toArray, List.set_cons_zero, List.set_cons_succ, i64_w, i32_w]
      rfl
     refine pure_ (i := 4) (N := some 29) (v := ?_) (a' := ?_) #[true, true, true, false, true, false, false, false, false, false] rfl rfl (any_of HT_.out (by kernel_rfl)) (fun _ _ _ h => h) (Or.inl ⟨by rfl, ?_⟩) ?_ ?_
     rotate_left
     ·intro w'
      go_simp
      with_reducible rfl
     rotate_left
     ·simp only [Act.put, List.setIfInBounds_toArray, List.set_cons_zero, List.set_cons_succ, i64_w, i32_w]
      rfl
     refine pure_ (i := 5) (N := some 30) (v := ?_) (a' := ?_) #[true, true, true, false, true, true, false, false, false, false] rfl rfl (any_of HT_.out (by kernel_rfl)) (fun _ _ _ h => h) (Or.inl ⟨by rfl, ?_⟩) ?_ ?_
     rotate_left
     ·intro w'
      go_simp
      with_reducible rfl
     rotate_left
     ·simp only [Act.put, List.setIfInBounds_toArray, List.set_cons_zero, List.set_cons_succ, i64_w, i32_w]
      rfl
     refine take_ (i := 3) (N := some 28) (v := ?_) (a' := ?_) #[true, true, true, true, true, true, false, false, false, false] rfl rfl (take_ofW HT_.out HW_.out (by kernel_rfl)) (fun _ _ _ h => h) (Or.inl ⟨by rfl, ?_⟩) hHeld ?_ ?_
     rotate_left
     ·rintro w' ⟨s0, s1⟩
      go_simp
      with_reducible rfl
     rotate_left
     ·simp only [Act.put, List.setIfInBounds_toArray, List.set_cons_zero, List.set_cons_succ, i64_w, i32_w]
      rfl
     refine take_ (i := 6) (N := some 31) (v := ?_) (a' := ?_) #[true, true, true, true, true, true, true, false, false, false] rfl rfl (take_ofW HT_.out HW_.out (by kernel_rfl)) (fun _ _ _ h => h) (Or.inl ⟨by rfl, ?_⟩) hHeld ?_ ?_
     rotate_left
     ·rintro w' ⟨s0, s1⟩
      go_simp
      with_reducible rfl
     rotate_left
     ·simp only [Act.put, List.setIfInBounds_toArray, List.set_cons_zero, List.set_cons_succ, i64_w, i32_w]
      rfl
     refine one_ (i := 7) (N := some 32) #[true, true, true, true, true, true, true, true, false, false] rfl rfl (one_of HT_.out (by kernel_rfl)) (by decide) (fun K hK => ?_)
     refine Kd.R_lit_step (Kd.int .i64) _ 3 ?hg (N := 32) ?hd (xs := ([rd t627 0, rd t627 1] : List Int)) (inner := [.int .i64 (rd t627 0), .int .i64 (rd t627 1)]) (ok := fun _ => True) (okp := fun _ => True) ?hr ?hp (fun _ hk => hk) trivial (Below.refl _ _) (Nat.le_refl _) (by simp) ?_; (case hd => rfl); (case hg => rfl); (case hr => first | (go_simp; done) | (go_simp; rfl)); (case hp => exact (Reps.one (show Kd.M (Kd.int .i64) _ _ _ (rd t627 0) [.int .i64 (rd t627 0)] from rfl) (Reps.one (show Kd.M (Kd.int .i64) _ _ _ (rd t627 1) [.int .i64 (rd t627 1)] from rfl) (Reps.none _ _))))
     intro v633 w18 ho19 hb hg_ hnew_
     have HS0_ := (hb.cell (World.block_lt_of_cell? _ _ (hHeld.1))).trans (hHeld.1)
     have HS1_ := (hb.cell (World.block_lt_of_cell? _ _ (hHeld.2))).trans (hHeld.2)
     clear hg_ hnew_
     (first | rw [← Ny632.out] at ho19 | (simp only [Int.reduceToNat] at ho19; rw [← Ny632.out] at ho19))
     have n0_ := eldRR HO_4 ho19 hb
     have n1_ := eldRR HO629 ho19 hb
     have n2_ := Aside0.mk (Kd.R_lower (Kd.R_new' (Kd.R_new' ho19 (ltR HO_4)) (ltR HO629)) (szB HB))
     have n3_ := upB HB hb
     clear HO_4
     clear HO629
     clear HB
     have HO_4 := n0_
     have HO629 := n1_
     have HO634 := n2_
     have HB := n3_
     clear n0_ n1_ n2_ n3_
     clear hb ho19
     obtain ⟨Ao21, co21, eo21⟩ := Kd.R_slice HO634.out
     (first | subst eo21 | (injection eo21 with f1_ f2_ f3_; have f4_ := f1_.symm; have f5_ := f3_.symm; clear f1_ f2_ f3_; subst f4_; subst f5_))
     refine hK.out _ _ ⟨HS0_, HS1_⟩ (fun hHeld => ?_)
     clear hK K
     refine norm_ (a' := ?_) ?_ ?_
     rotate_left
     ·show Act.put _ (some 32) _ = _
      simp only [Act.put, List.setIfInBounds_toArray, List.set_cons_zero, List.set_cons_succ, i64_w, i32_w]
      rfl
     refine last_ (i := 8) (N := some 33) #[true, true, true, true, true, true, true, true, true, false] rfl rfl (one_of HT_.out (by kernel_rfl)) (by decide) (fun K hK => ?_)
     refine Kd.R_append_rows_step (Kd.int .i64) (w0 := w) w.heap.size (by rfl) (.tmp 25) (.tmp 32) 24 3 (.int .i64 0) 8 rfl Try.underlying24 info3 rfl (by decide) (by omega) u4 x4_2 y632 _ _ _ (fun k_ => some k_ ≠ (.slice (some ad630) t627.length co17 : Value).ownBlock ∧ some k_ ≠ (.slice Ao21 y632.length co21 : Value).ownBlock) (fun _ => False) rfl rfl ?aO ?aR (fun _ _ h => h) (fun _ h => h.elim) ?aF ?aB ?aS ?aL ?_
     (case aR => exact atRC HO634)
     (case aB => exact (atB HB))
     (case aF => exact (fun k_ hk => ⟨Kd.fresh' (ltR HO629) k_ hk, Kd.fresh' (ltR HO634) k_ hk⟩))
     (case aO => exact (by (with_reducible repeat (first | apply Kd.R_alloc | apply Kd.R_drewN | apply Kd.R_drew)); exact Kd.R_mono HO_4.out (fun _ hk => ⟨hk.1.2, hk.2⟩)))
     (case aS => exact (szB HB))
     (case aL => have := LMc14.out; omega)
     intro v636 w20 ho hb hg hat
     rw [← Ny635.out] at ho
     have n0_ := Aside0.mk (Kd.R_after (ok := (fun k_ => some k_ ≠ (.slice Ao21 y632.length co21 : Value).ownBlock)) (by (with_reducible repeat (first | apply Kd.R_alloc | apply Kd.R_drewN | apply Kd.R_drew)); exact Kd.R_mono HO629.out (fun _ hk => ⟨hk.2, hk.1.2⟩)) hg hat)
     have n1_ := Aside0.mk (Kd.R_after (ok := (fun k_ => some k_ ≠ (.slice (some ad630) t627.length co17 : Value).ownBlock)) (by (with_reducible repeat (first | apply Kd.R_alloc | apply Kd.R_drewN | apply Kd.R_drew)); exact Kd.R_mono HO634.out (fun _ hk => ⟨hk.2, hk.1.2⟩)) hg hat)
     have n2_ := Aside0.mk (hb)
     have n3_ := Aside0.mk (ho)
     clear HO629
     clear HO634
     clear HB
     clear HO_4
     have HO629 := n0_
     have HO634 := n1_
     have HB := n2_
     have HO637 := n3_
     clear n0_ n1_ n2_ n3_
     clear ho hb hg hat
     refine hK.out _ _ ?_
     clear hK K
     refine norm_ (a' := ?_) ?_ ?_
     rotate_left
     ·show Act.put _ (some 33) _ = _
      simp only [Act.put, List.setIfInBounds_toArray, List.set_cons_zero, List.set_cons_succ, i64_w, i32_w]
      rfl
     refine pure_ (i := 9) (N := some 4) (v := ?_) (a' := ?_) #[true, true, true, true, true, true, true, true, true, true] rfl rfl (any_of HT_.out (by kernel_rfl)) (fun _ _ _ h => h) (Or.inl ⟨by rfl, ?_⟩) ?_ ?_
     rotate_left
     ·intro w'
      go_simp
      with_reducible rfl
     rotate_left
     ·simp only [Act.put, List.setIfInBounds_toArray, List.set_cons_zero, List.set_cons_succ, i64_w, i32_w]
      rfl
     refine done_ (done_of HT_.out (by kernel_rfl)) ?_
     try go_wp2
     go_roundg k2
     case measure => have := HJ1.out; have := HK2.out; omega
     case rel => exact ⟨(y635), (wrap64 (x5_2 + 1)), eqd, H', ⟨by have := HJ1.out; have := HK2.out; omega⟩, ⟨by (with_reducible repeat (first | apply Kd.R_alloc | apply Kd.R_drewN | apply Kd.R_drew)); exact Kd.R_mono HO637.out (fun _ hk => trivial)⟩, ⟨atB HB⟩⟩
noncomputable def Zad.J0 (x0 : List Int) (x14 : Bool) : Option (List Int × Bool) := lim fun k => Zad.j0 k x0 x14
theorem Zad.J0_lim (x0 : List Int) (x14 : Bool) : Lim (fun k => Zad.j0 k x0 x14) (Zad.J0 x0 x14) := Lim.of fun k => (Zad.mono_l k).1 x0 x14
noncomputable def Zad.L0 (x0 : List Int) (x4 : List Int) (x5 : Int) : Option (List Int × Bool) := lim fun k => Zad.l0 k x0 x4 x5
theorem Zad.L0_lim (x0 : List Int) (x4 : List Int) (x5 : Int) : Lim (fun k => Zad.l0 k x0 x4 x5) (Zad.L0 x0 x4 x5) := Lim.of fun k => (Zad.mono_l k).2 x0 x4 x5
noncomputable def Zad.F (l0 : List Int) : Option (List Int × Bool) := lim fun k => Zad.f k l0
theorem Zad.F_lim (l0 : List Int) : Lim (fun k => Zad.f k l0) (Zad.F l0) := Lim.of fun k => Zad.mono l0 k
theorem Zad.J0_eq (x0 : List Int) (x14 : Bool) : Zad.J0 x0 x14 = (if x14 = true then (some (([] : List Int), false)) else (Zad.L0 x0 ([] : List Int) 1)) :=
 Lim.step (f := fun k => Zad.j0 (k + 1) x0 x14) (Zad.J0_lim x0 x14) (fun _ => rfl) (by
  simp only [Zad.j0]
  repeat' (first | (with_reducible first | exact Lim.const _ | exact Zad.L0_lim _ _ _ | refine Lim.ite ?_ ?_ | refine Lim.bind ?_ (fun _ => ?_))))
theorem Zad.L0_eq (x0 : List Int) (x4 : List Int) (x5 : Int) : Zad.L0 x0 x4 x5 = (if x5 ≤ (wrap64 ((x0.length : Int) / 2)) then ((Zai.F x0 x5).bind fun t627 => (if 0 < (t627.length : Int) then (if 1 < (t627.length : Int) then ((some (([rd t627 0, rd t627 1] : List Int) : List Int)).bind fun y632 => (if x4.length + y632.length < 17592186044416 then (Zad.L0 x0 (x4 ++ y632) (wrap64 (x5 + 1))) else (none))) else (none)) else (none))) else (some (x4, true))) :=
 Lim.step (f := fun k => Zad.l0 (k + 1) x0 x4 x5) (Zad.L0_lim x0 x4 x5) (fun _ => rfl) (by
  simp only [Zad.l0]
  repeat' (first | (with_reducible first | exact Lim.const _ | exact Zad.L0_lim _ _ _ | exact Zai.F_lim _ _ | refine Lim.ite ?_ ?_ | refine Lim.bind ?_ (fun _ => ?_))))
theorem Zad.F_eq (l0 : List Int) : Zad.F l0 = ((Zcm.F l0).bind fun t625 => (if t625 = true then ((Zca.F l0).bind fun t626 => (Zad.J0 l0 (!t626))) else (Zad.J0 l0 true))) :=
 Lim.unique (Zad.F_lim l0) (by
  unfold Zad.f
  repeat' (first | (with_reducible first | exact Lim.const _ | exact Zad.J0_lim _ _ | exact Zcm.F_lim _ | exact Zca.F_lim _ | refine Lim.ite ?_ ?_ | refine Lim.bind ?_ (fun _ => ?_))))
def Zam.l0 : Nat → List Int → List Int → Int → Int → Option (Bool)
 | 0, _, _, _, _ => none
 | k + 1, x0, x1, x12, x13 => if x13 < x12 then (if 0 ≤ x13 then (if x13 < (x0.length : Int) then (if x13 < (x1.length : Int) then (if (rd x0 x13) = (rd x1 x13) then (Zam.l0 k x0 x1 x12 (wrap64 (x13 + 1))) else (some false)) else (none)) else (none)) else (none)) else (some true)
def Zam.f (k : Nat) (l0 : List Int) (l1 : List Int) : Option (Bool) := if (l0.length : Int) = (l1.length : Int) then (Zam.l0 k l0 l1 (l0.length : Int) 0) else (some false)
theorem Zam.mono_l : ∀ k, (∀ y0 y1 y2 y3, LeO (Zam.l0 k y0 y1 y2 y3) (Zam.l0 (k + 1) y0 y1 y2 y3))
 | 0 => fun _ _ _ _ r h => by simp [Zam.l0] at h
 | k + 1 => by
  have ih0 := Zam.mono_l k
  ·intro y0 y1 y2 y3
   unfold Zam.l0
   repeat' (first | (with_reducible first | exact ih0 _ _ _ _ | exact LeO.refl _ | exact LeO.none _ | refine LeO.ite ?_ ?_ | refine LeO.bind ?_ (fun _ => ?_)) | exact ih0 _ _ _ _ | exact LeO.none _ | refine LeO.ite ?_ ?_ | refine LeO.bind ?_ (fun _ => ?_))
theorem Zam.mono : ∀ a0 a1 k, LeO (Zam.f k a0 a1) (Zam.f (k + 1) a0 a1) := by
 intro a0 a1 k
 have ih0 := Zam.mono_l k
 unfold Zam.f
 repeat' (first | (with_reducible first | exact ih0 _ _ _ _ | exact LeO.refl _ | exact LeO.none _ | refine LeO.ite ?_ ?_ | refine LeO.bind ?_ (fun _ => ?_)) | exact ih0 _ _ _ _ | exact LeO.none _ | refine LeO.ite ?_ ?_ | refine LeO.bind ?_ (fun _ => ?_))
theorem Zam.calls (k : Nat) (A0 : Option Addr) (c0 : Nat) (l0 : List Int) (A1 : Option Addr) (c1 : Nat) (l1 : List Int) (r : Bool) (w : World) (hr0 : Kd.C (Kd.int .i64) w A0 l0.length l0) (hc0 : l0.length ≤ c0) (hr1 : Kd.C (Kd.int .i64) w A1 l1.length l1) (hc1 : l1.length ≤ c1) (h : Zam.f k l0 l1 = some r) :
  Calls Try.prog 10 #[.slice A0 l0.length c0, .slice A1 l1.length c1] w fun e w' => e = .returned (.bool r) ∧ Drawn0 w w' := by
 have HR0 := Aside0.mk hr0
 have HC0 := Aside0.mk hc0
 clear hr0 hc0
 have HR1 := Aside0.mk hr1
 have HC1 := Aside0.mk hc1
 clear hr1 hc1
 have H := h
 unfold Zam.f at H
 clear h
 by_cases c3 : (l0.length : Int) = (l1.length : Int)
 rotate_left
 ·rw [if_neg c3] at H
  have c3b0 : ((l0.length : Int) == (l1.length : Int)) = false := beq_eq_false_iff_ne.mpr c3
  have c3b1 : ((l0.length : Int) != (l1.length : Int)) = true := bne_iff_ne.mpr c3
  have c3b2 : (l0.length == l1.length) = false := by first | simpa using c3 | (simp at c3 ⊢; omega)
  obtain rfl := Option.some.inj H
  go_enter Try.func10, Try.ntmps10
  go_wp2
  repeat (go_quiet (fail); try go_wp2)
  go_ret
  exact ⟨by first | rfl | (simp; done) | (simp [*]; done), by repeat (first | exact Drawn0.refl _ | apply Drawn0.step)⟩
 rw [if_pos c3] at H
 have c3b0 : ((l0.length : Int) == (l1.length : Int)) = true := beq_iff_eq.mpr c3
 have c3b1 : ((l0.length : Int) != (l1.length : Int)) = false := bne_eq_false_iff_eq.mpr c3
 have c3b2 : (l0.length == l1.length) = true := by first | simpa using c3 | (simp at c3 ⊢; omega)
 clear c3
 have H' := Aside0.mk H
 clear H
 go_enter Try.func10, Try.ntmps10
 go_wp2
 repeat (go_quiet (fail); try go_wp2)
 go_loopg [13] k (fun kq v13 w' => ∃ (x13_1 : Int), v13 = .int .i64 x13_1 ∧ Aside0 (Zam.l0 kq l0 l1 (l0.length : Int) x13_1 = some r) ∧ Aside0 (kq ≤ k) ∧ Drawn0 w w')
 case atStart => exact ⟨(0), eqd, H', ⟨Nat.le_refl _⟩, by repeat (first | exact Drawn0.refl _ | apply Drawn0.step)⟩
 case round =>
  clear H'
  try clear c1
  try clear c3b0
  try clear c3b1
  try clear c3b2
  obtain ⟨x13_1, rfl, HA, HK1, ⟨m1, rfl⟩⟩ := hrel
  cases gk with
  | zero => exact absurd HA.out (by simp [Zam.l0])
  | succ k1 =>
   have H := HA.out
   clear HA
   simp only [Zam.l0] at H
   by_cases c4 : x13_1 < (l0.length : Int)
   rotate_left
   ·rw [if_neg c4] at H
    have c4b0 := decide_eq_false c4
    clear c4
    obtain rfl := Option.some.inj H
    go_wp2
    repeat (go_quiet (fail); try go_wp2)
    go_ret
    exact ⟨by first | rfl | (simp; done) | (simp [*]; done), by repeat (first | exact Drawn0.refl _ | apply Drawn0.step)⟩
   rw [if_pos c4] at H
   have c4b0 := decide_eq_true c4
   clear c4
   obtain ⟨c5b0, H⟩ := in_ H
   obtain ⟨c6b0, H⟩ := in_ H
   obtain ⟨c7b0, H⟩ := in_ H
   by_cases c8 : (rd l0 x13_1) = (rd l1 x13_1)
   ·rw [if_pos c8] at H
    have c8b0 : ((rd l0 x13_1) == (rd l1 x13_1)) = true := beq_iff_eq.mpr c8
    have c8b1 : ((rd l0 x13_1) != (rd l1 x13_1)) = false := bne_eq_false_iff_eq.mpr c8
    clear c8
    have H' := Aside0.mk H
    clear H
    have p182 : 0 ≤ (x13_1 : Int) := ofd
    have q182 : x13_1 < (l0.length : Int) := ofd
    obtain ⟨ad182, e182, hx182_0⟩ := Kd.at_int HR0.out x13_1 p182 q182
    cases e182
    replace p182 := eq_true p182
    replace q182 := eq_true q182
    have p183 : 0 ≤ (x13_1 : Int) := ofd
    have q183 : x13_1 < (l1.length : Int) := ofd
    obtain ⟨ad183, e183, hx183_0⟩ := Kd.at_int HR1.out x13_1 p183 q183
    cases e183
    replace p183 := eq_true p183
    replace q183 := eq_true q183
    go_wp2
    repeat (go_quiet (fail); try go_wp2)
    go_roundg k1
    case measure => have := HK1.out; omega
    case rel => exact ⟨(wrap64 (x13_1 + 1)), eqd, H', ⟨by have := HK1.out; omega⟩, by repeat (first | exact Drawn0.refl _ | apply Drawn0.step)⟩
   ·rw [if_neg c8] at H
    have c8b0 : ((rd l0 x13_1) == (rd l1 x13_1)) = false := beq_eq_false_iff_ne.mpr c8
    have c8b1 : ((rd l0 x13_1) != (rd l1 x13_1)) = true := bne_iff_ne.mpr c8
    obtain rfl := Option.some.inj H
    have p182 : 0 ≤ (x13_1 : Int) := ofd
    have q182 : x13_1 < (l0.length : Int) := ofd
    obtain ⟨ad182, e182, hx182_0⟩ := Kd.at_int HR0.out x13_1 p182 q182
    cases e182
    replace p182 := eq_true p182
    replace q182 := eq_true q182
    have p183 : 0 ≤ (x13_1 : Int) := ofd
    have q183 : x13_1 < (l1.length : Int) := ofd
    obtain ⟨ad183, e183, hx183_0⟩ := Kd.at_int HR1.out x13_1 p183 q183
    cases e183
    replace p183 := eq_true p183
    replace q183 := eq_true q183
    go_wp2
    repeat (go_quiet (fail); try go_wp2)
    go_ret
    exact ⟨by first | rfl | (simp; done) | (simp [*]; done), by repeat (first | exact Drawn0.refl _ | apply Drawn0.step)⟩
noncomputable def Zam.L0 (x0 : List Int) (x1 : List Int) (x12 : Int) (x13 : Int) : Option (Bool) := lim fun k => Zam.l0 k x0 x1 x12 x13
theorem Zam.L0_lim (x0 : List Int) (x1 : List Int) (x12 : Int) (x13 : Int) : Lim (fun k => Zam.l0 k x0 x1 x12 x13) (Zam.L0 x0 x1 x12 x13) := Lim.of fun k => (Zam.mono_l k) x0 x1 x12 x13
noncomputable def Zam.F (l0 : List Int) (l1 : List Int) : Option (Bool) := lim fun k => Zam.f k l0 l1
theorem Zam.F_lim (l0 : List Int) (l1 : List Int) : Lim (fun k => Zam.f k l0 l1) (Zam.F l0 l1) := Lim.of fun k => Zam.mono l0 l1 k
theorem Zam.L0_eq (x0 : List Int) (x1 : List Int) (x12 : Int) (x13 : Int) : Zam.L0 x0 x1 x12 x13 = (if x13 < x12 then (if 0 ≤ x13 then (if x13 < (x0.length : Int) then (if x13 < (x1.length : Int) then (if (rd x0 x13) = (rd x1 x13) then (Zam.L0 x0 x1 x12 (wrap64 (x13 + 1))) else (some false)) else (none)) else (none)) else (none)) else (some true)) :=
 Lim.step (f := fun k => Zam.l0 (k + 1) x0 x1 x12 x13) (Zam.L0_lim x0 x1 x12 x13) (fun _ => rfl) (by
  simp only [Zam.l0]
  repeat' (first | (with_reducible first | exact Lim.const _ | exact Zam.L0_lim _ _ _ _ | refine Lim.ite ?_ ?_ | refine Lim.bind ?_ (fun _ => ?_))))
theorem Zam.F_eq (l0 : List Int) (l1 : List Int) : Zam.F l0 l1 = (if (l0.length : Int) = (l1.length : Int) then (Zam.L0 l0 l1 (l0.length : Int) 0) else (some false)) :=
 Lim.unique (Zam.F_lim l0 l1) (by
  unfold Zam.f
  repeat' (first | (with_reducible first | exact Lim.const _ | exact Zam.L0_lim _ _ _ _ | refine Lim.ite ?_ ?_ | refine Lim.bind ?_ (fun _ => ?_))))
def Zda.f (a0 : Int) : Option (Int) := if a0 < 0 then (some (wrap64 (-a0))) else (some a0)
theorem Zda.calls (a0 : Int) (r : Int) (w : World) (h : Zda.f a0 = some r) :
  Calls Try.prog 32 #[.int .i64 a0] w fun e w' => e = .returned (.int .i64 r) ∧ Drawn0 w w' := by
 have H := h
 unfold Zda.f at H
 clear h
 by_cases c2 : a0 < 0
 rotate_left
 ·rw [if_neg c2] at H
  have c2b0 := decide_eq_false c2
  clear c2
  obtain rfl := Option.some.inj H
  go_enter Try.func32, Try.ntmps32
  go_wp2
  go_ret
  exact ⟨by first | rfl | (simp; done) | (simp [*]; done), by repeat (first | exact Drawn0.refl _ | apply Drawn0.step)⟩
 rw [if_pos c2] at H
 have c2b0 := decide_eq_true c2
 clear c2
 obtain rfl := Option.some.inj H
 go_enter Try.func32, Try.ntmps32
 go_wp2
 go_ret
 exact ⟨by first | rfl | (simp; done) | (simp [*]; done), by repeat (first | exact Drawn0.refl _ | apply Drawn0.step)⟩
def Zbj.l0 : Nat → Int → List Int → Int → Int → Option (Bool)
 | 0, _, _, _, _ => none
 | k + 1, x1, x7, x8, x9 => if x9 < x8 then (if 0 ≤ x9 then (if x9 < (x7.length : Int) then (if (rd x7 x9) = x1 then (some true) else (Zbj.l0 k x1 x7 x8 (wrap64 (x9 + 1)))) else (none)) else (none)) else (some false)
def Zbj.f (k : Nat) (l0 : List Int) (a1 : Int) : Option (Bool) := Zbj.l0 k a1 l0 (l0.length : Int) 0
theorem Zbj.mono_l : ∀ k, (∀ y0 y1 y2 y3, LeO (Zbj.l0 k y0 y1 y2 y3) (Zbj.l0 (k + 1) y0 y1 y2 y3))
 | 0 => fun _ _ _ _ r h => by simp [Zbj.l0] at h
 | k + 1 => by
  have ih0 := Zbj.mono_l k
  ·intro y0 y1 y2 y3
   unfold Zbj.l0
   repeat' (first | (with_reducible first | exact ih0 _ _ _ _ | exact LeO.refl _ | exact LeO.none _ | refine LeO.ite ?_ ?_ | refine LeO.bind ?_ (fun _ => ?_)) | exact ih0 _ _ _ _ | exact LeO.none _ | refine LeO.ite ?_ ?_ | refine LeO.bind ?_ (fun _ => ?_))
theorem Zbj.mono : ∀ a0 a1 k, LeO (Zbj.f k a0 a1) (Zbj.f (k + 1) a0 a1) := by
 intro a0 a1 k
 have ih0 := Zbj.mono_l k
 unfold Zbj.f
 repeat' (first | (with_reducible first | exact ih0 _ _ _ _ | exact LeO.refl _ | exact LeO.none _ | refine LeO.ite ?_ ?_ | refine LeO.bind ?_ (fun _ => ?_)) | exact ih0 _ _ _ _ | exact LeO.none _ | refine LeO.ite ?_ ?_ | refine LeO.bind ?_ (fun _ => ?_))
theorem Zbj.calls (k : Nat) (A0 : Option Addr) (c0 : Nat) (l0 : List Int) (a1 : Int) (r : Bool) (w : World) (hr0 : Kd.C (Kd.int .i64) w A0 l0.length l0) (hc0 : l0.length ≤ c0) (h : Zbj.f k l0 a1 = some r) :
  Calls Try.prog 33 #[.slice A0 l0.length c0, .int .i64 a1] w fun e w' => e = .returned (.bool r) ∧ Drawn0 w w' := by
 have HR0 := Aside0.mk hr0
 have HC0 := Aside0.mk hc0
 clear hr0 hc0
 have H := h
 unfold Zbj.f at H
 clear h
 have H' := Aside0.mk H
 clear H
 go_enter Try.func33, Try.ntmps33
 go_wp2
 go_loopg [9] k (fun kq v9 w' => ∃ (x9_1 : Int), v9 = .int .i64 x9_1 ∧ Aside0 (Zbj.l0 kq a1 l0 (l0.length : Int) x9_1 = some r) ∧ Aside0 (kq ≤ k) ∧ Drawn0 w w')
 case atStart => exact ⟨(0), eqd, H', ⟨Nat.le_refl _⟩, by repeat (first | exact Drawn0.refl _ | apply Drawn0.step)⟩
 case round =>
  clear H'
  obtain ⟨x9_1, rfl, HA, HK1, ⟨m1, rfl⟩⟩ := hrel
  cases gk with
  | zero => exact absurd HA.out (by simp [Zbj.l0])
  | succ k1 =>
   have H := HA.out
   clear HA
   simp only [Zbj.l0] at H
   by_cases c3 : x9_1 < (l0.length : Int)
   rotate_left
   ·rw [if_neg c3] at H
    have c3b0 := decide_eq_false c3
    clear c3
    obtain rfl := Option.some.inj H
    go_wp2
    go_ret
    exact ⟨by first | rfl | (simp; done) | (simp [*]; done), by repeat (first | exact Drawn0.refl _ | apply Drawn0.step)⟩
   rw [if_pos c3] at H
   have c3b0 := decide_eq_true c3
   clear c3
   obtain ⟨c4b0, H⟩ := in_ H
   obtain ⟨c5b0, H⟩ := in_ H
   by_cases c6 : (rd l0 x9_1) = a1
   ·rw [if_pos c6] at H
    have c6b0 : ((rd l0 x9_1) == a1) = true := beq_iff_eq.mpr c6
    have c6b1 : ((rd l0 x9_1) != a1) = false := bne_eq_false_iff_eq.mpr c6
    clear c6
    obtain rfl := Option.some.inj H
    have p638 : 0 ≤ (x9_1 : Int) := ofd
    have q638 : x9_1 < (l0.length : Int) := ofd
    obtain ⟨ad638, e638, hx638_0⟩ := Kd.at_int HR0.out x9_1 p638 q638
    cases e638
    replace p638 := eq_true p638
    replace q638 := eq_true q638
    go_wp2
    go_ret
    exact ⟨by first | rfl | (simp; done) | (simp [*]; done), by repeat (first | exact Drawn0.refl _ | apply Drawn0.step)⟩
   ·rw [if_neg c6] at H
    have c6b0 : ((rd l0 x9_1) == a1) = false := beq_eq_false_iff_ne.mpr c6
    have c6b1 : ((rd l0 x9_1) != a1) = true := bne_iff_ne.mpr c6
    have H' := Aside0.mk H
    clear H
    have p638 : 0 ≤ (x9_1 : Int) := ofd
    have q638 : x9_1 < (l0.length : Int) := ofd
    obtain ⟨ad638, e638, hx638_0⟩ := Kd.at_int HR0.out x9_1 p638 q638
    cases e638
    replace p638 := eq_true p638
    replace q638 := eq_true q638
    go_wp2
    go_roundg k1
    case measure => have := HK1.out; omega
    case rel => exact ⟨(wrap64 (x9_1 + 1)), eqd, H', ⟨by have := HK1.out; omega⟩, by repeat (first | exact Drawn0.refl _ | apply Drawn0.step)⟩
noncomputable def Zbj.L0 (x1 : Int) (x7 : List Int) (x8 : Int) (x9 : Int) : Option (Bool) := lim fun k => Zbj.l0 k x1 x7 x8 x9
theorem Zbj.L0_lim (x1 : Int) (x7 : List Int) (x8 : Int) (x9 : Int) : Lim (fun k => Zbj.l0 k x1 x7 x8 x9) (Zbj.L0 x1 x7 x8 x9) := Lim.of fun k => (Zbj.mono_l k) x1 x7 x8 x9
noncomputable def Zbj.F (l0 : List Int) (a1 : Int) : Option (Bool) := lim fun k => Zbj.f k l0 a1
theorem Zbj.F_lim (l0 : List Int) (a1 : Int) : Lim (fun k => Zbj.f k l0 a1) (Zbj.F l0 a1) := Lim.of fun k => Zbj.mono l0 a1 k
theorem Zbj.L0_eq (x1 : Int) (x7 : List Int) (x8 : Int) (x9 : Int) : Zbj.L0 x1 x7 x8 x9 = (if x9 < x8 then (if 0 ≤ x9 then (if x9 < (x7.length : Int) then (if (rd x7 x9) = x1 then (some true) else (Zbj.L0 x1 x7 x8 (wrap64 (x9 + 1)))) else (none)) else (none)) else (some false)) :=
 Lim.step (f := fun k => Zbj.l0 (k + 1) x1 x7 x8 x9) (Zbj.L0_lim x1 x7 x8 x9) (fun _ => rfl) (by
  simp only [Zbj.l0]
  repeat' (first | (with_reducible first | exact Lim.const _ | exact Zbj.L0_lim _ _ _ _ | refine Lim.ite ?_ ?_ | refine Lim.bind ?_ (fun _ => ?_))))
theorem Zbj.F_eq (l0 : List Int) (a1 : Int) : Zbj.F l0 a1 = (Zbj.L0 a1 l0 (l0.length : Int) 0) :=
 Lim.unique (Zbj.F_lim l0 a1) (by
  unfold Zbj.f
  repeat' (first | (with_reducible first | exact Lim.const _ | exact Zbj.L0_lim _ _ _ _ | refine Lim.ite ?_ ?_ | refine Lim.bind ?_ (fun _ => ?_))))
mutual
def Zaa.j0 : Nat → List Int → Option (Bool)
 | 0, _ => none
 | k + 1, x1 => (Zct.f x1).bind fun t667 => ((Zbn.f k t667).bind fun bt668 => ((Zbm.f k t667).bind fun bt672 => ((Zcw.f t667).bind fun bt676 => ((Zcx.f t667).bind fun bt680 => (if (bt668.2 != bt672.2) = true then (some false) else ((Zam.f k bt668.1 bt672.1).bind fun t684 => (if t684 = true then (if (bt676.2 != bt680.2) = true then (some false) else ((Zam.f k bt676.1 bt680.1).bind fun t685 => (if t685 = true then (if (bt668.2 != bt676.2) = true then (some false) else (if bt668.2 = true then ((Zaf.f k bt668.1).bind fun bt686 => ((Zaf.f k bt676.1).bind fun bt688 => (if (bt668.1.length : Int) = t667 then (if (bt676.1.length : Int) = t667 then ((Zag.f k bt668.1).bind fun t690 => (if t690 = true then ((Zag.f k bt676.1).bind fun t691 => (if t691 = true then (if bt686.2 = true then (if bt686.1 = true then (if bt688.2 = true then (if bt688.1 = true then (if t667 ≥ 3 then (Zaa.j1 k x1 t667 bt676.1 (decide (t667 ≤ 6))) else (Zaa.j1 k x1 t667 bt676.1 false)) else (some false)) else (some false)) else (some false)) else (some false)) else (some false))) else (some false))) else (some false)) else (some false)))) else (Zaa.j3 k x1))) else (some false)))) else (some false))))))))
def Zaa.j3 : Nat → List Int → Option (Bool)
 | 0, _ => none
 | k + 1, x1 => (Zbx.f k x1).bind fun t694 => ((Zaf.f k t694).bind fun bt697 => ((Zak.f k t694).bind fun bt699 => ((Zcq.f x1).bind fun t701 => ((Zbp.f k t701).bind fun bt702 => ((Zce.f k t701).bind fun bt706 => ((Zcl.f t701).bind fun bt710 => ((Zco.f x1).bind fun t712 => ((Zcl.f t712).bind fun bt713 => ((Zcv.f t712).bind fun bt715 => ((Zbl.f k x1).bind fun t717 => ((Zcb.f k t717).bind fun bt720 => ((Zad.f k t717).bind fun bt724 => (if (bt697.2 != bt699.2) = true then (Zaa.j4 k t701 bt702.1 bt702.2 t717 bt720.1 bt720.2 true) else (if (bt697.1 != bt699.1) = true then (Zaa.j4 k t701 bt702.1 bt702.2 t717 bt720.1 bt720.2 true) else (if (bt702.2 != bt706.2) = true then (Zaa.j4 k t701 bt702.1 bt702.2 t717 bt720.1 bt720.2 true) else ((Zam.f k bt702.1 bt706.1).bind fun t728 => (if t728 = true then (if (bt713.2 != bt715.2) = true then (Zaa.j4 k t701 bt702.1 bt702.2 t717 bt720.1 bt720.2 true) else (if (bt713.1 != bt715.1) = true then (Zaa.j4 k t701 bt702.1 bt702.2 t717 bt720.1 bt720.2 true) else (if (bt720.2 != bt724.2) = true then (Zaa.j4 k t701 bt702.1 bt702.2 t717 bt720.1 bt720.2 true) else ((Zam.f k bt720.1 bt724.1).bind fun t729 => (if t729 = true then (if t701 ≥ 3 then (if t701 ≤ 8 then (if bt710.2 = true then (Zaa.j4 k t701 bt702.1 bt702.2 t717 bt720.1 bt720.2 (bt702.2 != bt710.1)) else (Zaa.j4 k t701 bt702.1 bt702.2 t717 bt720.1 bt720.2 true)) else (Zaa.j4 k t701 bt702.1 bt702.2 t717 bt720.1 bt720.2 false)) else (Zaa.j4 k t701 bt702.1 bt702.2 t717 bt720.1 bt720.2 false)) else (Zaa.j4 k t701 bt702.1 bt702.2 t717 bt720.1 bt720.2 true)))))) else (Zaa.j4 k t701 bt702.1 bt702.2 t717 bt720.1 bt720.2 true))))))))))))))))))
def Zaa.j4 : Nat → Int → List Int → Bool → List Int → List Int → Bool → Bool → Option (Bool)
 | 0, _, _, _, _, _, _, _ => none
 | k + 1, x42, x43, x44, x54, x55, x56, x398 => if x398 = true then (some false) else (if x44 = true then (Zaa.l1 k x42 x43 x54 x55 x56 ([] : List Int) x43 (x43.length : Int) 0) else (Zaa.j6 k x54 x55 x56))
def Zaa.j6 : Nat → List Int → List Int → Bool → Option (Bool)
 | 0, _, _, _ => none
 | k + 1, x54, x55, x56 => if x56 = true then (Zaa.l2 k x54 x55 1) else (some true)
def Zaa.l2 : Nat → List Int → List Int → Int → Option (Bool)
 | 0, _, _, _ => none
 | k + 1, x54, x55, x63 => if x63 ≤ (wrap64 ((x54.length : Int) / 2)) then (if 0 ≤ (wrap64 ((wrap64 (2 * x63)) - 2)) then (if (wrap64 ((wrap64 (2 * x63)) - 2)) < (x55.length : Int) then (if 0 ≤ (wrap64 ((wrap64 (2 * x63)) - 1)) then (if (wrap64 ((wrap64 (2 * x63)) - 1)) < (x55.length : Int) then (if (wrap64 ((rd x55 (wrap64 ((wrap64 (2 * x63)) - 1))) - (rd x55 (wrap64 ((wrap64 (2 * x63)) - 2))))) = x63 then (if 0 ≤ (rd x55 (wrap64 ((wrap64 (2 * x63)) - 2))) then (if (rd x55 (wrap64 ((wrap64 (2 * x63)) - 2))) < (x54.length : Int) then (if (rd x54 (rd x55 (wrap64 ((wrap64 (2 * x63)) - 2)))) = x63 then (if 0 ≤ (rd x55 (wrap64 ((wrap64 (2 * x63)) - 1))) then (if (rd x55 (wrap64 ((wrap64 (2 * x63)) - 1))) < (x54.length : Int) then (if (rd x54 (rd x55 (wrap64 ((wrap64 (2 * x63)) - 1)))) = x63 then (Zaa.l2 k x54 x55 (wrap64 (x63 + 1))) else (some false)) else (none)) else (none)) else (some false)) else (none)) else (none)) else (some false)) else (none)) else (none)) else (none)) else (none)) else (some ((x55.length : Int) == (x54.length : Int)))
def Zaa.l1 : Nat → Int → List Int → List Int → List Int → Bool → List Int → List Int → Int → Int → Option (Bool)
 | 0, _, _, _, _, _, _, _, _, _ => none
 | k + 1, x42, x43, x54, x55, x56, x59, x400, x401, x402 => if x402 < x401 then (if 0 ≤ x402 then (if x402 < (x400.length : Int) then (if x42 = 0 then (none) else (if 0 ≤ (Int.tmod (wrap64 (x402 + 1)) x42) then (if (Int.tmod (wrap64 (x402 + 1)) x42) < (x43.length : Int) then ((Zda.f (wrap64 ((rd x400 x402) - (rd x43 (Int.tmod (wrap64 (x402 + 1)) x42))))).bind fun t733 => (if (rd x400 x402) < 0 then (some false) else (if (rd x400 x402) > x42 then (some false) else (if t733 < 1 then (some false) else (if t733 > x42 then (some false) else ((Zbj.f k x59 t733).bind fun t734 => (if t734 = true then (some false) else (if x402 ≤ (x43.length : Int) then ((Zbj.f k (x43.take (x402 : Int).toNat) (rd x400 x402)).bind fun t739 => (if t739 = true then (some false) else (if x59.length < 17592186044416 then (Zaa.l1 k x42 x43 x54 x55 x56 (x59 ++ [t733]) x400 x401 (wrap64 (x402 + 1))) else (none)))) else (none))))))))) else (none)) else (none))) else (none)) else (none)) else (if (x43.length : Int) = x42 then (if 0 < (x43.length : Int) then (if (rd x43 0) = 0 then (Zaa.j6 k x54 x55 x56) else (some false)) else (none)) else (some false))
def Zaa.j1 : Nat → List Int → Int → List Int → Bool → Option (Bool)
 | 0, _, _, _, _ => none
 | k + 1, x1, x20, x25, x268 => if x268 = true then ((Zbz.f k x25).bind fun bt692 => (Zaa.l0 k x1 x20 bt692.1 bt692.2 2 2)) else (Zaa.j3 k x1)
def Zaa.l0 : Nat → List Int → Int → Int → Bool → Int → Int → Option (Bool)
 | 0, _, _, _, _, _, _ => none
 | k + 1, x1, x20, x33, x34, x35, x36 => if x36 < x20 then (Zaa.l0 k x1 x20 x33 x34 (wrap64 (x35 * x36)) (wrap64 (x36 + 1))) else (if x34 = true then (if x33 = x35 then (Zaa.j3 k x1) else (some false)) else (some false))
end
def Zaa.f (k : Nat) (l0 : List Int) (l1 : List Int) : Option (Bool) := (Zcz.f l0 l1).bind fun t639 => (if t639 = true then (some true) else ((Zbo.f k l0).bind fun t640 => ((Zcg.f k t640).bind fun bt643 => ((Zas.f k t640).bind fun bt647 => ((Zbh.f k t640).bind fun bt651 => ((Zch.f k t640).bind fun bt655 => (if (bt643.2 != bt647.2) = true then (some false) else ((Zam.f k bt643.1 bt647.1).bind fun t659 => (if t659 = true then (if (bt651.2 != bt655.2) = true then (some false) else ((Zam.f k bt651.1 bt655.1).bind fun t660 => (if t660 = true then (if (bt651.2 != bt643.2) = true then (some false) else (if bt643.2 = true then ((Zbq.f k bt651.1 bt643.1).bind fun bt661 => ((Zaf.f k bt651.1).bind fun bt663 => ((Zap.f k bt651.1 bt643.1).bind fun bt665 => (if bt661.2 = true then (if bt661.1 = true then (if bt663.2 = true then (if bt663.1 = true then (if (bt665.2 != (decide ((bt651.1.length : Int) > 1))) = true then (some false) else (if bt665.2 = true then (if bt665.1 < 0 then (some false) else (if bt665.1 ≥ (wrap64 ((bt651.1.length : Int) - 1)) then (some false) else (Zaa.j0 k l1))) else (Zaa.j0 k l1))) else (some false)) else (some false)) else (some false)) else (some false))))) else (Zaa.j0 k l1))) else (some false)))) else (some false))))))))))
theorem Zaa.mono_l : ∀ k, (∀ y0, LeO (Zaa.j0 k y0) (Zaa.j0 (k + 1) y0)) ∧ (∀ y0, LeO (Zaa.j3 k y0) (Zaa.j3 (k + 1) y0)) ∧ (∀ y0 y1 y2 y3 y4 y5 y6, LeO (Zaa.j4 k y0 y1 y2 y3 y4 y5 y6) (Zaa.j4 (k + 1) y0 y1 y2 y3 y4 y5 y6)) ∧ (∀ y0 y1 y2, LeO (Zaa.j6 k y0 y1 y2) (Zaa.j6 (k + 1) y0 y1 y2)) ∧ (∀ y0 y1 y2, LeO (Zaa.l2 k y0 y1 y2) (Zaa.l2 (k + 1) y0 y1 y2)) ∧ (∀ y0 y1 y2 y3 y4 y5 y6 y7 y8, LeO (Zaa.l1 k y0 y1 y2 y3 y4 y5 y6 y7 y8) (Zaa.l1 (k + 1) y0 y1 y2 y3 y4 y5 y6 y7 y8)) ∧ (∀ y0 y1 y2 y3, LeO (Zaa.j1 k y0 y1 y2 y3) (Zaa.j1 (k + 1) y0 y1 y2 y3)) ∧ (∀ y0 y1 y2 y3 y4 y5, LeO (Zaa.l0 k y0 y1 y2 y3 y4 y5) (Zaa.l0 (k + 1) y0 y1 y2 y3 y4 y5))
 | 0 => ⟨fun _ r h => by simp [Zaa.j0] at h, fun _ r h => by simp [Zaa.j3] at h, fun _ _ _ _ _ _ _ r h => by simp [Zaa.j4] at h, fun _ _ _ r h => by simp [Zaa.j6] at h, fun _ _ _ r h => by simp [Zaa.l2] at h, fun _ _ _ _ _ _ _ _ _ r h => by simp [Zaa.l1] at h, fun _ _ _ _ r h => by simp [Zaa.j1] at h, fun _ _ _ _ _ _ r h => by simp [Zaa.l0] at h⟩
 | k + 1 => by
  obtain ⟨ih0, ih1, ih2, ih3, ih4, ih5, ih6, ih7⟩ := Zaa.mono_l k
  refine ⟨?_, ?_, ?_, ?_, ?_, ?_, ?_, ?_⟩
  ·intro y0
   unfold Zaa.j0
   repeat' (first | (with_reducible first | exact ih1 _ | exact ih6 _ _ _ _ | exact Zaf.mono _ _ | exact Zag.mono _ _ | exact Zbn.mono _ _ | exact Zam.mono _ _ _ | exact Zbm.mono _ _ | exact LeO.refl _ | exact LeO.none _ | refine LeO.ite ?_ ?_ | refine LeO.bind ?_ (fun _ => ?_)) | exact ih1 _ | exact ih6 _ _ _ _ | exact Zaf.mono _ _ | exact Zag.mono _ _ | exact Zbn.mono _ _ | exact Zam.mono _ _ _ | exact Zbm.mono _ _ | exact LeO.none _ | refine LeO.ite ?_ ?_ | refine LeO.bind ?_ (fun _ => ?_))
  ·intro y0
   unfold Zaa.j3
   repeat' (first | (with_reducible first | exact ih2 _ _ _ _ _ _ _ | exact Zbp.mono _ _ | exact Zaf.mono _ _ | exact Zcb.mono _ _ | exact Zam.mono _ _ _ | exact Zbx.mono _ _ | exact Zbl.mono _ _ | exact Zce.mono _ _ | exact Zak.mono _ _ | exact Zad.mono _ _ | exact LeO.refl _ | exact LeO.none _ | refine LeO.ite ?_ ?_ | refine LeO.bind ?_ (fun _ => ?_)) | exact ih2 _ _ _ _ _ _ _ | exact Zbp.mono _ _ | exact Zaf.mono _ _ | exact Zcb.mono _ _ | exact Zam.mono _ _ _ | exact Zbx.mono _ _ | exact Zbl.mono _ _ | exact Zce.mono _ _ | exact Zak.mono _ _ | exact Zad.mono _ _ | exact LeO.none _ | refine LeO.ite ?_ ?_ | refine LeO.bind ?_ (fun _ => ?_))
  ·intro y0 y1 y2 y3 y4 y5 y6
   unfold Zaa.j4
   repeat' (first | (with_reducible first | exact ih3 _ _ _ | exact ih5 _ _ _ _ _ _ _ _ _ | exact LeO.refl _ | exact LeO.none _ | refine LeO.ite ?_ ?_ | refine LeO.bind ?_ (fun _ => ?_)) | exact ih3 _ _ _ | exact ih5 _ _ _ _ _ _ _ _ _ | exact LeO.none _ | refine LeO.ite ?_ ?_ | refine LeO.bind ?_ (fun _ => ?_))
  ·intro y0 y1 y2
   unfold Zaa.j6
   repeat' (first | (with_reducible first | exact ih4 _ _ _ | exact LeO.refl _ | exact LeO.none _ | refine LeO.ite ?_ ?_ | refine LeO.bind ?_ (fun _ => ?_)) | exact ih4 _ _ _ | exact LeO.none _ | refine LeO.ite ?_ ?_ | refine LeO.bind ?_ (fun _ => ?_))
  ·intro y0 y1 y2
   unfold Zaa.l2
   repeat' (first | (with_reducible first | exact ih4 _ _ _ | exact LeO.refl _ | exact LeO.none _ | refine LeO.ite ?_ ?_ | refine LeO.bind ?_ (fun _ => ?_)) | exact ih4 _ _ _ | exact LeO.none _ | refine LeO.ite ?_ ?_ | refine LeO.bind ?_ (fun _ => ?_))
  ·intro y0 y1 y2 y3 y4 y5 y6 y7 y8
   unfold Zaa.l1
   repeat' (first | (with_reducible first | exact ih3 _ _ _ | exact ih5 _ _ _ _ _ _ _ _ _ | exact Zbj.mono _ _ _ | exact LeO.refl _ | exact LeO.none _ | refine LeO.ite ?_ ?_ | refine LeO.bind ?_ (fun _ => ?_)) | exact ih3 _ _ _ | exact ih5 _ _ _ _ _ _ _ _ _ | exact Zbj.mono _ _ _ | exact LeO.none _ | refine LeO.ite ?_ ?_ | refine LeO.bind ?_ (fun _ => ?_))
  ·intro y0 y1 y2 y3
   unfold Zaa.j1
   repeat' (first | (with_reducible first | exact ih1 _ | exact ih7 _ _ _ _ _ _ | exact Zbz.mono _ _ | exact LeO.refl _ | exact LeO.none _ | refine LeO.ite ?_ ?_ | refine LeO.bind ?_ (fun _ => ?_)) | exact ih1 _ | exact ih7 _ _ _ _ _ _ | exact Zbz.mono _ _ | exact LeO.none _ | refine LeO.ite ?_ ?_ | refine LeO.bind ?_ (fun _ => ?_))
  ·intro y0 y1 y2 y3 y4 y5
   unfold Zaa.l0
   repeat' (first | (with_reducible first | exact ih1 _ | exact ih7 _ _ _ _ _ _ | exact LeO.refl _ | exact LeO.none _ | refine LeO.ite ?_ ?_ | refine LeO.bind ?_ (fun _ => ?_)) | exact ih1 _ | exact ih7 _ _ _ _ _ _ | exact LeO.none _ | refine LeO.ite ?_ ?_ | refine LeO.bind ?_ (fun _ => ?_))
theorem Zaa.mono : ∀ a0 a1 k, LeO (Zaa.f k a0 a1) (Zaa.f (k + 1) a0 a1) := by
 intro a0 a1 k
 obtain ⟨ih0, ih1, ih2, ih3, ih4, ih5, ih6, ih7⟩ := Zaa.mono_l k
 unfold Zaa.f
 repeat' (first | (with_reducible first | exact ih0 _ | exact Zcg.mono _ _ | exact Zbh.mono _ _ | exact Zaf.mono _ _ | exact Zbq.mono _ _ _ | exact Zap.mono _ _ _ | exact Zam.mono _ _ _ | exact Zas.mono _ _ | exact Zch.mono _ _ | exact Zbo.mono _ _ | exact LeO.refl _ | exact LeO.none _ | refine LeO.ite ?_ ?_ | refine LeO.bind ?_ (fun _ => ?_)) | exact ih0 _ | exact Zcg.mono _ _ | exact Zbh.mono _ _ | exact Zaf.mono _ _ | exact Zbq.mono _ _ _ | exact Zap.mono _ _ _ | exact Zam.mono _ _ _ | exact Zas.mono _ _ | exact Zch.mono _ _ | exact Zbo.mono _ _ | exact LeO.none _ | refine LeO.ite ?_ ?_ | refine LeO.bind ?_ (fun _ => ?_))
theorem Zaa.j4_no : ∀ k y0 y1 y2 y3 y4 y5, Zaa.j4 k y0 y1 y2 y3 y4 y5 true ≠ some true := by
 intro k
 cases k <;> intros <;> simp [Zaa.j4]
def Zaa.Pure : Prop := ∀ (l0 : List Int) (l1 : List Int), l0.length ≤ maxLen → l0.length * 1 ≤ 140737488351232 → (∀ x ∈ l0, (Lit.int .u8 x).wf = true) → l1.length ≤ maxLen → l1.length * 1 ≤ 140737488351232 → (∀ x ∈ l1, (Lit.int .u8 x).wf = true) → ∃ k, Zaa.f k l0 l1 = some true
noncomputable def Zaa.J0 (x1 : List Int) : Option (Bool) := lim fun k => Zaa.j0 k x1
theorem Zaa.J0_lim (x1 : List Int) : Lim (fun k => Zaa.j0 k x1) (Zaa.J0 x1) := Lim.of fun k => (Zaa.mono_l k).1 x1
noncomputable def Zaa.J3 (x1 : List Int) : Option (Bool) := lim fun k => Zaa.j3 k x1
theorem Zaa.J3_lim (x1 : List Int) : Lim (fun k => Zaa.j3 k x1) (Zaa.J3 x1) := Lim.of fun k => (Zaa.mono_l k).2.1 x1
noncomputable def Zaa.J4 (x42 : Int) (x43 : List Int) (x44 : Bool) (x54 : List Int) (x55 : List Int) (x56 : Bool) (x398 : Bool) : Option (Bool) := lim fun k => Zaa.j4 k x42 x43 x44 x54 x55 x56 x398
theorem Zaa.J4_lim (x42 : Int) (x43 : List Int) (x44 : Bool) (x54 : List Int) (x55 : List Int) (x56 : Bool) (x398 : Bool) : Lim (fun k => Zaa.j4 k x42 x43 x44 x54 x55 x56 x398) (Zaa.J4 x42 x43 x44 x54 x55 x56 x398) := Lim.of fun k => (Zaa.mono_l k).2.2.1 x42 x43 x44 x54 x55 x56 x398
noncomputable def Zaa.J6 (x54 : List Int) (x55 : List Int) (x56 : Bool) : Option (Bool) := lim fun k => Zaa.j6 k x54 x55 x56
theorem Zaa.J6_lim (x54 : List Int) (x55 : List Int) (x56 : Bool) : Lim (fun k => Zaa.j6 k x54 x55 x56) (Zaa.J6 x54 x55 x56) := Lim.of fun k => (Zaa.mono_l k).2.2.2.1 x54 x55 x56
noncomputable def Zaa.L2 (x54 : List Int) (x55 : List Int) (x63 : Int) : Option (Bool) := lim fun k => Zaa.l2 k x54 x55 x63
theorem Zaa.L2_lim (x54 : List Int) (x55 : List Int) (x63 : Int) : Lim (fun k => Zaa.l2 k x54 x55 x63) (Zaa.L2 x54 x55 x63) := Lim.of fun k => (Zaa.mono_l k).2.2.2.2.1 x54 x55 x63
noncomputable def Zaa.L1 (x42 : Int) (x43 : List Int) (x54 : List Int) (x55 : List Int) (x56 : Bool) (x59 : List Int) (x400 : List Int) (x401 : Int) (x402 : Int) : Option (Bool) := lim fun k => Zaa.l1 k x42 x43 x54 x55 x56 x59 x400 x401 x402
theorem Zaa.L1_lim (x42 : Int) (x43 : List Int) (x54 : List Int) (x55 : List Int) (x56 : Bool) (x59 : List Int) (x400 : List Int) (x401 : Int) (x402 : Int) : Lim (fun k => Zaa.l1 k x42 x43 x54 x55 x56 x59 x400 x401 x402) (Zaa.L1 x42 x43 x54 x55 x56 x59 x400 x401 x402) := Lim.of fun k => (Zaa.mono_l k).2.2.2.2.2.1 x42 x43 x54 x55 x56 x59 x400 x401 x402
noncomputable def Zaa.J1 (x1 : List Int) (x20 : Int) (x25 : List Int) (x268 : Bool) : Option (Bool) := lim fun k => Zaa.j1 k x1 x20 x25 x268
theorem Zaa.J1_lim (x1 : List Int) (x20 : Int) (x25 : List Int) (x268 : Bool) : Lim (fun k => Zaa.j1 k x1 x20 x25 x268) (Zaa.J1 x1 x20 x25 x268) := Lim.of fun k => (Zaa.mono_l k).2.2.2.2.2.2.1 x1 x20 x25 x268
noncomputable def Zaa.L0 (x1 : List Int) (x20 : Int) (x33 : Int) (x34 : Bool) (x35 : Int) (x36 : Int) : Option (Bool) := lim fun k => Zaa.l0 k x1 x20 x33 x34 x35 x36
theorem Zaa.L0_lim (x1 : List Int) (x20 : Int) (x33 : Int) (x34 : Bool) (x35 : Int) (x36 : Int) : Lim (fun k => Zaa.l0 k x1 x20 x33 x34 x35 x36) (Zaa.L0 x1 x20 x33 x34 x35 x36) := Lim.of fun k => (Zaa.mono_l k).2.2.2.2.2.2.2 x1 x20 x33 x34 x35 x36
noncomputable def Zaa.F (l0 : List Int) (l1 : List Int) : Option (Bool) := lim fun k => Zaa.f k l0 l1
theorem Zaa.F_lim (l0 : List Int) (l1 : List Int) : Lim (fun k => Zaa.f k l0 l1) (Zaa.F l0 l1) := Lim.of fun k => Zaa.mono l0 l1 k
theorem Zaa.J0_eq (x1 : List Int) : Zaa.J0 x1 = ((Zct.f x1).bind fun t667 => ((Zbn.F t667).bind fun bt668 => ((Zbm.F t667).bind fun bt672 => ((Zcw.f t667).bind fun bt676 => ((Zcx.f t667).bind fun bt680 => (if (bt668.2 != bt672.2) = true then (some false) else ((Zam.F bt668.1 bt672.1).bind fun t684 => (if t684 = true then (if (bt676.2 != bt680.2) = true then (some false) else ((Zam.F bt676.1 bt680.1).bind fun t685 => (if t685 = true then (if (bt668.2 != bt676.2) = true then (some false) else (if bt668.2 = true then ((Zaf.F bt668.1).bind fun bt686 => ((Zaf.F bt676.1).bind fun bt688 => (if (bt668.1.length : Int) = t667 then (if (bt676.1.length : Int) = t667 then ((Zag.F bt668.1).bind fun t690 => (if t690 = true then ((Zag.F bt676.1).bind fun t691 => (if t691 = true then (if bt686.2 = true then (if bt686.1 = true then (if bt688.2 = true then (if bt688.1 = true then (if t667 ≥ 3 then (Zaa.J1 x1 t667 bt676.1 (decide (t667 ≤ 6))) else (Zaa.J1 x1 t667 bt676.1 false)) else (some false)) else (some false)) else (some false)) else (some false)) else (some false))) else (some false))) else (some false)) else (some false)))) else (Zaa.J3 x1))) else (some false)))) else (some false))))))))) :=
 Lim.step (f := fun k => Zaa.j0 (k + 1) x1) (Zaa.J0_lim x1) (fun _ => rfl) (by
  simp only [Zaa.j0]
  repeat' (first | (with_reducible first | exact Lim.const _ | exact Zaf.F_lim _ | exact Zag.F_lim _ | exact Zbn.F_lim _ | exact Zaa.J1_lim _ _ _ _ | exact Zaa.J3_lim _ | exact Zam.F_lim _ _ | exact Zbm.F_lim _ | refine Lim.ite ?_ ?_ | refine Lim.bind ?_ (fun _ => ?_))))
theorem Zaa.J3_eq (x1 : List Int) : Zaa.J3 x1 = ((Zbx.F x1).bind fun t694 => ((Zaf.F t694).bind fun bt697 => ((Zak.F t694).bind fun bt699 => ((Zcq.f x1).bind fun t701 => ((Zbp.F t701).bind fun bt702 => ((Zce.F t701).bind fun bt706 => ((Zcl.f t701).bind fun bt710 => ((Zco.f x1).bind fun t712 => ((Zcl.f t712).bind fun bt713 => ((Zcv.f t712).bind fun bt715 => ((Zbl.F x1).bind fun t717 => ((Zcb.F t717).bind fun bt720 => ((Zad.F t717).bind fun bt724 => (if (bt697.2 != bt699.2) = true then (Zaa.J4 t701 bt702.1 bt702.2 t717 bt720.1 bt720.2 true) else (if (bt697.1 != bt699.1) = true then (Zaa.J4 t701 bt702.1 bt702.2 t717 bt720.1 bt720.2 true) else (if (bt702.2 != bt706.2) = true then (Zaa.J4 t701 bt702.1 bt702.2 t717 bt720.1 bt720.2 true) else ((Zam.F bt702.1 bt706.1).bind fun t728 => (if t728 = true then (if (bt713.2 != bt715.2) = true then (Zaa.J4 t701 bt702.1 bt702.2 t717 bt720.1 bt720.2 true) else (if (bt713.1 != bt715.1) = true then (Zaa.J4 t701 bt702.1 bt702.2 t717 bt720.1 bt720.2 true) else (if (bt720.2 != bt724.2) = true then (Zaa.J4 t701 bt702.1 bt702.2 t717 bt720.1 bt720.2 true) else ((Zam.F bt720.1 bt724.1).bind fun t729 => (if t729 = true then (if t701 ≥ 3 then (if t701 ≤ 8 then (if bt710.2 = true then (Zaa.J4 t701 bt702.1 bt702.2 t717 bt720.1 bt720.2 (bt702.2 != bt710.1)) else (Zaa.J4 t701 bt702.1 bt702.2 t717 bt720.1 bt720.2 true)) else (Zaa.J4 t701 bt702.1 bt702.2 t717 bt720.1 bt720.2 false)) else (Zaa.J4 t701 bt702.1 bt702.2 t717 bt720.1 bt720.2 false)) else (Zaa.J4 t701 bt702.1 bt702.2 t717 bt720.1 bt720.2 true)))))) else (Zaa.J4 t701 bt702.1 bt702.2 t717 bt720.1 bt720.2 true))))))))))))))))))) :=
 Lim.step (f := fun k => Zaa.j3 (k + 1) x1) (Zaa.J3_lim x1) (fun _ => rfl) (by
  simp only [Zaa.j3]
  repeat' (first | (with_reducible first | exact Lim.const _ | exact Zbp.F_lim _ | exact Zaf.F_lim _ | exact Zcb.F_lim | exact Zaa.J4_lim _ _ _ _ _ _ _ | exact Zam.F_lim _ _ | exact Zbx.F_lim _ | exact Zbl.F_lim _ | exact Zce.F_lim _ | exact Zak.F_lim _ | exact Zad.F_lim _ | refine Lim.ite ?_ ?_ | refine Lim.bind ?_ (fun _ => ?_))))
theorem Zaa.J4_eq (x42 : Int) (x43 : List Int) (x44 : Bool) (x54 : List Int) (x55 : List Int) (x56 : Bool) (x398 : Bool) : Zaa.J4 x42 x43 x44 x54 x55 x56 x398 = (if x398 = true then (some false) else (if x44 = true then (Zaa.L1 x42 x43 x54 x55 x56 ([] : List Int) x43 (x43.length : Int) 0) else (Zaa.J6 x54 x55 x56))) :=
 Lim.step (f := fun k => Zaa.j4 (k + 1) x42 x43 x44 x54 x55 x56 x398) (Zaa.J4_lim x42 x43 x44 x54 x55 x56 x398) (fun _ => rfl) (by
  simp only [Zaa.j4]
  repeat' (first | (with_reducible first | exact Lim.const _ | exact Zaa.J6_lim _ _ _ | exact Zaa.L1_lim _ _ _ _ _ _ _ _ _ | refine Lim.ite ?_ ?_ | refine Lim.bind ?_ (fun _ => ?_))))
theorem Zaa.J6_eq (x54 : List Int) (x55 : List Int) (x56 : Bool) : Zaa.J6 x54 x55 x56 = (if x56 = true then (Zaa.L2 x54 x55 1) else (some true)) :=
 Lim.step (f := fun k => Zaa.j6 (k + 1) x54 x55 x56) (Zaa.J6_lim x54 x55 x56) (fun _ => rfl) (by
  simp only [Zaa.j6]
  repeat' (first | (with_reducible first | exact Lim.const _ | exact Zaa.L2_lim _ _ _ | refine Lim.ite ?_ ?_ | refine Lim.bind ?_ (fun _ => ?_))))
theorem Zaa.L2_eq (x54 : List Int) (x55 : List Int) (x63 : Int) : Zaa.L2 x54 x55 x63 = (if x63 ≤ (wrap64 ((x54.length : Int) / 2)) then (if 0 ≤ (wrap64 ((wrap64 (2 * x63)) - 2)) then (if (wrap64 ((wrap64 (2 * x63)) - 2)) < (x55.length : Int) then (if 0 ≤ (wrap64 ((wrap64 (2 * x63)) - 1)) then (if (wrap64 ((wrap64 (2 * x63)) - 1)) < (x55.length : Int) then (if (wrap64 ((rd x55 (wrap64 ((wrap64 (2 * x63)) - 1))) - (rd x55 (wrap64 ((wrap64 (2 * x63)) - 2))))) = x63 then (if 0 ≤ (rd x55 (wrap64 ((wrap64 (2 * x63)) - 2))) then (if (rd x55 (wrap64 ((wrap64 (2 * x63)) - 2))) < (x54.length : Int) then (if (rd x54 (rd x55 (wrap64 ((wrap64 (2 * x63)) - 2)))) = x63 then (if 0 ≤ (rd x55 (wrap64 ((wrap64 (2 * x63)) - 1))) then (if (rd x55 (wrap64 ((wrap64 (2 * x63)) - 1))) < (x54.length : Int) then (if (rd x54 (rd x55 (wrap64 ((wrap64 (2 * x63)) - 1)))) = x63 then (Zaa.L2 x54 x55 (wrap64 (x63 + 1))) else (some false)) else (none)) else (none)) else (some false)) else (none)) else (none)) else (some false)) else (none)) else (none)) else (none)) else (none)) else (some ((x55.length : Int) == (x54.length : Int)))) :=
 Lim.step (f := fun k => Zaa.l2 (k + 1) x54 x55 x63) (Zaa.L2_lim x54 x55 x63) (fun _ => rfl) (by
  simp only [Zaa.l2]
  repeat' (first | (with_reducible first | exact Lim.const _ | exact Zaa.L2_lim _ _ _ | refine Lim.ite ?_ ?_ | refine Lim.bind ?_ (fun _ => ?_))))
theorem Zaa.L1_eq (x42 : Int) (x43 : List Int) (x54 : List Int) (x55 : List Int) (x56 : Bool) (x59 : List Int) (x400 : List Int) (x401 : Int) (x402 : Int) : Zaa.L1 x42 x43 x54 x55 x56 x59 x400 x401 x402 = (if x402 < x401 then (if 0 ≤ x402 then (if x402 < (x400.length : Int) then (if x42 = 0 then (none) else (if 0 ≤ (Int.tmod (wrap64 (x402 + 1)) x42) then (if (Int.tmod (wrap64 (x402 + 1)) x42) < (x43.length : Int) then ((Zda.f (wrap64 ((rd x400 x402) - (rd x43 (Int.tmod (wrap64 (x402 + 1)) x42))))).bind fun t733 => (if (rd x400 x402) < 0 then (some false) else (if (rd x400 x402) > x42 then (some false) else (if t733 < 1 then (some false) else (if t733 > x42 then (some false) else ((Zbj.F x59 t733).bind fun t734 => (if t734 = true then (some false) else (if x402 ≤ (x43.length : Int) then ((Zbj.F (x43.take (x402 : Int).toNat) (rd x400 x402)).bind fun t739 => (if t739 = true then (some false) else (if x59.length < 17592186044416 then (Zaa.L1 x42 x43 x54 x55 x56 (x59 ++ [t733]) x400 x401 (wrap64 (x402 + 1))) else (none)))) else (none))))))))) else (none)) else (none))) else (none)) else (none)) else (if (x43.length : Int) = x42 then (if 0 < (x43.length : Int) then (if (rd x43 0) = 0 then (Zaa.J6 x54 x55 x56) else (some false)) else (none)) else (some false))) :=
 Lim.step (f := fun k => Zaa.l1 (k + 1) x42 x43 x54 x55 x56 x59 x400 x401 x402) (Zaa.L1_lim x42 x43 x54 x55 x56 x59 x400 x401 x402) (fun _ => rfl) (by
  simp only [Zaa.l1]
  repeat' (first | (with_reducible first | exact Lim.const _ | exact Zaa.J6_lim _ _ _ | exact Zaa.L1_lim _ _ _ _ _ _ _ _ _ | exact Zbj.F_lim _ _ | refine Lim.ite ?_ ?_ | refine Lim.bind ?_ (fun _ => ?_))))
theorem Zaa.J1_eq (x1 : List Int) (x20 : Int) (x25 : List Int) (x268 : Bool) : Zaa.J1 x1 x20 x25 x268 = (if x268 = true then ((Zbz.F x25).bind fun bt692 => (Zaa.L0 x1 x20 bt692.1 bt692.2 2 2)) else (Zaa.J3 x1)) :=
 Lim.step (f := fun k => Zaa.j1 (k + 1) x1 x20 x25 x268) (Zaa.J1_lim x1 x20 x25 x268) (fun _ => rfl) (by
  simp only [Zaa.j1]
  repeat' (first | (with_reducible first | exact Lim.const _ | exact Zbz.F_lim | exact Zaa.J3_lim _ | exact Zaa.L0_lim _ _ _ _ _ _ | refine Lim.ite ?_ ?_ | refine Lim.bind ?_ (fun _ => ?_))))
theorem Zaa.L0_eq (x1 : List Int) (x20 : Int) (x33 : Int) (x34 : Bool) (x35 : Int) (x36 : Int) : Zaa.L0 x1 x20 x33 x34 x35 x36 = (if x36 < x20 then (Zaa.L0 x1 x20 x33 x34 (wrap64 (x35 * x36)) (wrap64 (x36 + 1))) else (if x34 = true then (if x33 = x35 then (Zaa.J3 x1) else (some false)) else (some false))) :=
 Lim.step (f := fun k => Zaa.l0 (k + 1) x1 x20 x33 x34 x35 x36) (Zaa.L0_lim x1 x20 x33 x34 x35 x36) (fun _ => rfl) (by
  simp only [Zaa.l0]
  repeat' (first | (with_reducible first | exact Lim.const _ | exact Zaa.J3_lim _ | exact Zaa.L0_lim _ _ _ _ _ _ | refine Lim.ite ?_ ?_ | refine Lim.bind ?_ (fun _ => ?_))))
theorem Zaa.F_eq (l0 : List Int) (l1 : List Int) : Zaa.F l0 l1 = ((Zcz.f l0 l1).bind fun t639 => (if t639 = true then (some true) else ((Zbo.F l0).bind fun t640 => ((Zcg.F t640).bind fun bt643 => ((Zas.F t640).bind fun bt647 => ((Zbh.F t640).bind fun bt651 => ((Zch.F t640).bind fun bt655 => (if (bt643.2 != bt647.2) = true then (some false) else ((Zam.F bt643.1 bt647.1).bind fun t659 => (if t659 = true then (if (bt651.2 != bt655.2) = true then (some false) else ((Zam.F bt651.1 bt655.1).bind fun t660 => (if t660 = true then (if (bt651.2 != bt643.2) = true then (some false) else (if bt643.2 = true then ((Zbq.F bt651.1 bt643.1).bind fun bt661 => ((Zaf.F bt651.1).bind fun bt663 => ((Zap.F bt651.1 bt643.1).bind fun bt665 => (if bt661.2 = true then (if bt661.1 = true then (if bt663.2 = true then (if bt663.1 = true then (if (bt665.2 != (decide ((bt651.1.length : Int) > 1))) = true then (some false) else (if bt665.2 = true then (if bt665.1 < 0 then (some false) else (if bt665.1 ≥ (wrap64 ((bt651.1.length : Int) - 1)) then (some false) else (Zaa.J0 l1))) else (Zaa.J0 l1))) else (some false)) else (some false)) else (some false)) else (some false))))) else (Zaa.J0 l1))) else (some false)))) else (some false))))))))))) :=
 Lim.unique (Zaa.F_lim l0 l1) (by
  unfold Zaa.f
  repeat' (first | (with_reducible first | exact Lim.const _ | exact Zcg.F_lim | exact Zbh.F_lim _ | exact Zaf.F_lim _ | exact Zbq.F_lim _ _ | exact Zap.F_lim _ _ | exact Zaa.J0_lim _ | exact Zam.F_lim _ _ | exact Zas.F_lim _ | exact Zch.F_lim _ | exact Zbo.F_lim _ | refine Lim.ite ?_ ?_ | refine Lim.bind ?_ (fun _ => ?_))))
end Go.Proofs.Ytapffhnkfgkboaa.Fn
