/- The machine's side and plain lemmas for FnTreesLabelled: texts of this session, merged by its program (part 1). -/
import Derived.Laws.BitsLemmas
import Derived.Laws.Rows
import Derived.Lib.SliceRun
import Derived.Test.YtnhnpplccfojeaaMFnTreesLabelled0
set_option maxHeartbeats 80000000
set_option maxRecDepth 100000
namespace Go.Proofs.Ytnhnpplccfojeaa.Fn
open Go.RowKit Go.Proofs.YtnhnpplccfojeaaW.PrintWords Go.Proofs.YtnhnpplccfojeaaW.PrintLast Go.Proofs.YtnhnpplccfojeaaW.PrintMore
attribute [local go_sem] max2_int min2_int max_two min_two max_three min_three max_four min_four
set_option linter.unusedVariables false
set_option linter.unusedSimpArgs false
abbrev GrSt := Int × List Int
def grLoop (rec : List Int → Nat → Nat → GrSt → Option GrSt) (ps p : List Int) (nodes edges : Nat) : Nat → Nat → GrSt → Option GrSt
 | 0, _, s => some s
 | m + 1, y, s => if nodes.testBit y = true then grLoop rec ps p nodes edges m (y + 1) s
  else if p.length = 0 then (rec (p ++ [(y : Int)]) (nodes ||| 2 ^ y) edges s).bind fun s' => grLoop rec ps p nodes edges m (y + 1) s'
  else if 0 ≤ rd ps (p.length : Int) ∧ rd ps (p.length : Int) < (p.length : Int) then (if edges.testBit ((y : Int) - rd p (rd ps (p.length : Int))).natAbs = true then grLoop rec ps p nodes edges m (y + 1) s
   else (rec (p ++ [(y : Int)]) (nodes ||| 2 ^ y) (edges ||| 2 ^ ((y : Int) - rd p (rd ps (p.length : Int))).natAbs) s).bind fun s' => grLoop rec ps p nodes edges m (y + 1) s')
  else none
def grF (ps : List Int) : Nat → List Int → Nat → Nat → GrSt → Option GrSt
 | 0, _, _, _, _ => none
 | k + 1, p, nodes, edges, s => if p.length = ps.length then some (wrap64 (s.1 + 1), if s.1 = 0 then p else s.2) else grLoop (grF ps k) ps p nodes edges ps.length 0 s
theorem gr_bit_int (u n : Nat) : ((u : Int) / 2 ^ n).tmod 2 = if u.testBit n = true then 1 else 0 := by
 have e : ((u : Int) / 2 ^ n) = ((u / 2 ^ n : Nat) : Int) := by simp
 have e2 : (2 : Int) = ((2 : Nat) : Int) := rfl
 rw [e, e2, ← Int.ofNat_tmod, Nat.testBit_eq_decide_div_mod_eq]
 have := Nat.mod_two_eq_zero_or_one (u / 2 ^ n)
 rcases this with h | h <;> simp [h]
theorem gr_or_bit {u m : Nat} (hu : u < 2 ^ 60) (hm : m < 60) : bits BinOp.or IntKind.i64 (u : Int) (wrap64 (2 ^ m)) = ((u ||| 2 ^ m : Nat) : Int) := by
 have hp : 2 ^ m < 2 ^ 60 := Nat.pow_lt_pow_right (by decide) hm
 have e : wrap64 ((2 : Int) ^ m) = ((2 ^ m : Nat) : Int) := by
  have h2 : (2 : Int) ^ m = ((2 ^ m : Nat) : Int) := by simp
  rw [h2]
  generalize 2 ^ m = q at hp
  exact wrap_in (by omega) (by omega)
 rw [e]
 exact (bits_nat .i64 60 (by decide) (fun n h0 h1 => by rw [IntKind.wrap_i64]; omega) u (2 ^ m) hu hp).2
theorem gr_or_lt {u m : Nat} (hu : u < 2 ^ 60) (hm : m < 60) : u ||| 2 ^ m < 2 ^ 60 := Nat.or_lt_two_pow hu (Nat.pow_lt_pow_right (by decide) hm)
theorem gr_abs {a : Int} (h : -100 ≤ a ∧ a ≤ 100) : Zbx.f a = some ((a.natAbs : Nat) : Int) := by
 unfold Zbx.f Zcb.f
 rw [wrap_in (by omega) (by omega)]
 split <;> simp only [Option.bind_some, Option.some.injEq] <;> omega
structure GrI (base pc pf : Nat) (s : GrSt) (w : World) : Prop where
 cnt : w.heap[pc]? = some (.cells #[.int .i64 s.1] 3 (0, 0))
 fst : ∃ v, w.heap[pf]? = some (.cells #[v] 24 (0, 0)) ∧ Kd.R (Kd.int .i64) 3 w base (fun k => ¬ k = pc) v s.2
theorem GrI.below {base pc pf : Nat} {s : GrSt} {w w' : World} (h : GrI base pc pf s w) (hb : Below w.heap.size w w') : GrI base pc pf s w' := by
 obtain ⟨h1, v, h2, h3⟩ := h
 exact ⟨blk_below h1 hb, v, blk_below h2 hb, Kd.R_below h3 hb⟩
theorem keepI_set {e pc : Nat} (w : World) (off : Nat) (v : Value) : KeepI e (fun k => k = pc) w (w.setCell ⟨pc, off, none⟩ v) := fun k _ hk hc => (Below.heap_setCell w _ _ k (fun e => hk e)).trans hc
theorem keepI_other {e t pf : Nat} {Y : Nat → Prop} {w : World} {cs : Array Value} (h : w.heap[pf]? = some (.cells cs t (0, 0))) (ht : t ≠ e) (off : Nat) (v : Value) : KeepI e Y w (w.setCell ⟨pf, off, none⟩ v) := fun k cells _ hc => by
 refine (Below.heap_setCell w _ _ k (fun e' => ?_)).trans hc
 rw [show k = pf from e'] at hc
 rw [hc] at h
 injection h with h
 injection h with _ h
 exact ht h.symm
theorem GrI.count {base pc pf : Nat} {s : GrSt} {w : World} (h : GrI base pc pf s w) (n : Int) : GrI base pc pf (n, s.2) (w.setCell ⟨pc, 0, none⟩ (.int .i64 n)) := by
 obtain ⟨h1, v, h2, h3⟩ := h
 refine ⟨one_setCell h1, v, (Below.heap_setCell w _ _ pf (fun e => ?_)).trans h2, (keepI_set w 0 _).R rfl h3⟩
 rw [show pf = pc from e] at h2
 rw [h1] at h2
 simp at h2
theorem GrI.keep {base pc pf : Nat} {s : GrSt} {w : World} {v : Value} {p : List Int} (h : GrI base pc pf s w) (hv : Kd.R (Kd.int .i64) 3 w base (fun k => ¬ k = pc) v p) : GrI base pc pf (s.1, p) (w.setCell ⟨pf, 0, none⟩ v) := by
 obtain ⟨h1, v0, h2, h3⟩ := h
 refine ⟨(Below.heap_setCell w _ _ pc (fun e => ?_)).trans h1, v, one_setCell h2, (keepI_other h2 (by decide) 0 v).R rfl hv⟩
 rw [show pc = pf from e] at h1
 rw [h2] at h1
 simp at h1
theorem grLook_call {wb : World} {pc pf : Nat} (hpc : wb.heap.size ≤ pc) (hpf : wb.heap.size ≤ pf) (ps : List Int) (AP : Option Addr) (cP : Nat) (hn : ps.length ≤ 50) (hps : Kd.C (Kd.int .i64) wb AP ps.length ps) (hcp : ps.length ≤ cP) :
  ∀ (k : Nat) (s s' : GrSt) (p : List Int) (nodes edges : Nat) (A : Option Addr) (c : Nat) (w : World), p.length ≤ ps.length → (∀ x ∈ p, 0 ≤ x ∧ x < 50) → nodes < 2 ^ 60 → edges < 2 ^ 60 → GrI wb.heap.size pc pf s w → Below wb.heap.size wb w → Kd.R (Kd.int .i64) 3 w wb.heap.size (fun k => ¬ k = pc) (.slice A p.length c) p → grF ps k p nodes edges s = some s' →
  Calls Try.prog 138 #[.slice AP ps.length cP, .slice A p.length c, .int .i64 (nodes : Int), .int .i64 (edges : Int), .pointer (some ⟨pc, 0, none⟩), .pointer (some ⟨pf, 0, none⟩)] w fun e w' => e = .returned (.tuple #[]) ∧ GrI wb.heap.size pc pf s' w' ∧ Below wb.heap.size w w' ∧ KeepI 3 (fun k => k = pc) w w' := by
 have HN := Aside0.mk hn
 have HPS := Aside0.mk hps
 have HCP := Aside0.mk hcp
 have HPC := Aside0.mk hpc
 have HPF := Aside0.mk hpf
 clear hn hps hcp hpc hpf
 intro k
 induction k with
 | zero =>
  intro s s' p nodes edges A c w _ _ _ _ _ _ _ h
  cases h
 | succ k ih =>
  intro s s' p nodes edges A c w hpn hpx hnd hed hI hBB hR h
  have IH := Aside0.mk ih
  have HPN := Aside0.mk hpn
  have HPX := Aside0.mk hpx
  have HND := Aside0.mk hnd
  have HED := Aside0.mk hed
  have HI := Aside0.mk hI
  have HBB := Aside0.mk hBB
  have HR := Aside0.mk hR
  have HOWN := Aside0.mk (show Zbu.f p = some p from by show (if ([] : List Int).length + p.length < 17592186044416 then some ([] ++ p) else none) = some p; rw [if_pos (by have := HN.out; rw [List.length_nil]; omega), List.nil_append])
  by_cases hlen : p.length = ps.length
  ·have H := Aside0.mk (show (wrap64 (s.1 + 1), if s.1 = 0 then p else s.2) = s' from Option.some.inj (by rw [← h]; exact (if_pos hlen).symm))
   have b1 : ((p.length : Int) == (ps.length : Int)) = true := beq_iff_eq.mpr (by omega)
   have hc2 := cell_of_one HI.out.cnt
   have hf2 := free_of_one HI.out.cnt
   by_cases h0 : s.1 = 0
   rotate_left
   ·have b2 : (s.1 == 0) = false := beq_eq_false_iff_ne.mpr h0
    have H0 := Aside0.mk h0
    clear ih hpn hpx hnd hed hI hBB hR h hlen h0
    go_enter Try.func138, Try.ntmps138
    go_wp2
    first | go_end0 | ((try simp only [Exit.inBlock, Exit.then]); refine bodyPost_ret (results_none rfl _ _ _) rfl ?_)
    refine ⟨rfl, ?_, (Below.refl _ _).setCell (show wb.heap.size ≤ (⟨pc, 0, none⟩ : Addr).block from HPC.out) _, keepI_set _ 0 _⟩
    rw [← H.out, if_neg H0.out]
    exact HI.out.count _
   have b2 : (s.1 == 0) = true := beq_iff_eq.mpr h0
   have H0 := Aside0.mk h0
   clear ih hpn hpx hnd hed hI hBB hR h hlen h0
   go_enter Try.func138, Try.ntmps138
   go_wp2_with (first | ((with_reducible refine gate_callee (f := 144) rfl ?_); refine goesA (some 28) Try.func144 #[.slice A p.length c] ?_; refine (Zbu.calls A c p p _ (Kd.R_reads' HR.out).2.2 (Kd.R_reads' HR.out).2.1 HOWN.out).mono ?_; rintro e w1 ⟨v1, rfl, hv1, hb1⟩; refine ⟨_, rfl, ?_⟩; obtain ⟨A1, c1, e1⟩ := Kd.R_slice hv1; subst e1; clear hc2 hf2; have HSZ := Aside0.mk HBB.out.size; have HV1 := Aside0.mk (show Kd.R (Kd.int .i64) 3 w1 wb.heap.size (fun k => ¬ k = pc) (.slice A1 p.length c1) p from Kd.R_lower (Kd.R_mono (Kd.R_bound hv1) (fun k hk => by have h1 := lt_of_cells HI.out.cnt; have h2 := hk.2.1; omega)) HSZ.out); have HI1 := Aside0.mk (HI.out.below hb1); have HB1 := Aside0.mk (hb1.mono HSZ.out); have HK1 := Aside0.mk (KeepI.of_below (e := 3) (Y := fun k => k = pc) hb1); obtain ⟨vf, hvf, _⟩ := HI1.out.fst; have hcf := cell_of_one hvf; have hff := free_of_one hvf; have HI2 := Aside0.mk (HI1.out.keep HV1.out); have hc2 := cell_of_one HI2.out.cnt; have hf2 := free_of_one HI2.out.cnt; have HK2 := Aside0.mk (HK1.out.trans (keepI_other hvf (by decide) 0 (.slice A1 p.length c1))); have HB2 := Aside0.mk (HB1.out.setCell (show wb.heap.size ≤ (⟨pf, 0, none⟩ : Addr).block from HPF.out) (.slice A1 p.length c1)); clear hv1 hb1 hvf))
   first | go_end0 | ((try simp only [Exit.inBlock, Exit.then]); refine bodyPost_ret (results_none rfl _ _ _) rfl ?_)
   refine ⟨rfl, ?_, HB2.out.setCell (show wb.heap.size ≤ (⟨pc, 0, none⟩ : Addr).block from HPC.out) _, HK2.out.trans (keepI_set _ 0 _)⟩
   rw [← H.out, if_pos H0.out]
   exact HI2.out.count _
  ·have H := Aside0.mk (show grLoop (grF ps k) ps p nodes edges ps.length 0 s = some s' by rw [← h]; exact (if_neg hlen).symm)
   have b1 : ((p.length : Int) == (ps.length : Int)) = false := beq_eq_false_iff_ne.mpr (by omega)
   have HLT := Aside0.mk (show p.length < ps.length by omega)
   clear ih hpn hpx hnd hed hI hBB hR h hlen
   go_enter Try.func138, Try.ntmps138
   go_wp2
   go_loopw [13] (fun v wr => ∃ (y : Nat) (s1 : GrSt), y ≤ ps.length ∧ v = .int .i64 y ∧ Aside0 (GrI wb.heap.size pc pf s1 wr) ∧ Aside0 (Below wb.heap.size w wr) ∧ Aside0 (KeepI 3 (fun k => k = pc) w wr) ∧ Aside0 (grLoop (grF ps k) ps p nodes edges (ps.length - y) y s1 = some s')) (fun v _ => ps.length - (intOf v).toNat)
   case atStart => exact ⟨0, s, Nat.zero_le _, rfl, HI, ⟨Below.refl _ _⟩, ⟨KeepI.refl _ _ _⟩, ⟨by rw [Nat.sub_zero]; exact H.out⟩⟩
   case round =>
    obtain ⟨y, s1, hy, rfl, HI1, HB1, HK1, H1⟩ := hrel
    by_cases hlt : y < ps.length
    rotate_left
    ·obtain rfl : y = ps.length := by omega
     have h1 := H1.out
     rw [Nat.sub_self] at h1
     obtain rfl := Option.some.inj (show some s1 = some s' from h1)
     clear h1 H1 hlt hy
     go_wp2
     first | go_end0 | ((try simp only [Exit.inBlock, Exit.then]); refine bodyPost_ret (results_none rfl _ _ _) rfl ?_)
     exact ⟨rfl, HI1.out, HB1.out, HK1.out⟩
    have h1 := H1.out
    rw [show ps.length - y = (ps.length - (y + 1)) + 1 by omega] at h1
    have HRP := Aside0.mk (HK1.out.R rfl HR.out)
    have HBB1 := Aside0.mk (HBB.out.trans HB1.out)
    have HCPr := Aside0.mk (Kd.C_below HPS.out HBB1.out)
    have HLTY := Aside0.mk hlt
    have hn1 := HN.out
    have HY60 := Aside0.mk (show y < 60 by omega)
    have c1 : decide ((y : Int) < (ps.length : Int)) = true := decide_eq_true (by omega)
    have c1n := decide_eq_true hlt
    clear H1 hy
    by_cases hbit : nodes.testBit y = true
    ·have HREST := Aside0.mk (show grLoop (grF ps k) ps p nodes edges (ps.length - (y + 1)) (y + 1) s1 = some s' by rw [← h1]; exact (if_pos hbit).symm)
     have c2 : (((nodes : Int) / 2 ^ y).tmod 2 == 1) = true := by rw [gr_bit_int, if_pos hbit]; rfl
     clear h1 hbit
     go_wp2
     go_roundw
     case rel => exact ⟨y + 1, s1, HLTY.out, by go_num, HI1, HB1, HK1, HREST⟩
     case measure => simp [intOf]; have := HLTY.out; omega
    have c2 : (((nodes : Int) / 2 ^ y).tmod 2 == 1) = false := by rw [gr_bit_int, if_neg hbit]; rfl
    replace h1 := (show grLoop (grF ps k) ps p nodes edges ((ps.length - (y + 1)) + 1) y s1 = _ from if_neg hbit).symm.trans h1
    obtain ⟨nx, hnx⟩ : ∃ nx, p ++ [(y : Int)] = nx := ⟨_, rfl⟩
    have HLA := Aside0.mk (show nx.length = p.length + 1 by rw [← hnx]; simp)
    have HNXB := Aside0.mk (show ∀ x ∈ nx, 0 ≤ x ∧ x < 50 by
     intro x hx
     rw [← hnx] at hx
     rcases List.mem_append.1 hx with hx | hx
     ·exact HPX.out x hx
     ·rw [List.mem_singleton] at hx
      omega)
    rw [hnx] at h1
    have HNX := Aside0.mk hnx
    obtain ⟨n2, hn2⟩ : ∃ n2, nodes ||| 2 ^ y = n2 := ⟨_, rfl⟩
    have HN2L := Aside0.mk (show n2 < 2 ^ 60 from hn2 ▸ gr_or_lt HND.out HY60.out)
    rw [hn2] at h1
    have HN2 := Aside0.mk hn2
    clear hn2
    clear hnx hbit
    by_cases hp0 : p.length = 0
    ·rw [if_pos hp0] at h1
     obtain ⟨s2, hq, h1⟩ := Option.bind_eq_some_iff.1 h1
     have HQ := Aside0.mk hq
     have HREST := Aside0.mk h1
     have c3 : decide (0 < (p.length : Int)) = false := decide_eq_false (by omega)
     have c3n : decide (0 < p.length) = false := decide_eq_false (by omega)
     have HED2 := Aside0.mk HED.out
     clear h1 hq hp0
     go_upto_region 14 with (fail)
     have HI_ := HI1
     have HBB_ := HBB1
     have HSZ_ := Aside0.mk HBB1.out.size
     have hCP_ := (Kd.R_reads' HRP.out).2.2
     have hbW_ : Below wr.heap.size wr wr.drew := below_drew1 (Below.refl _ _)
     refine start_ (n := 14) (S := fun w' => True) (ds := []) #[false, false, false, false, false, false, false, false, false, false, false, false, false, false] (by kernel_rfl) rfl rfl trivial (fun hHeld => ?_)
     refine pure_ (i := 0) (N := some 68) (v := ?_) (a' := ?_) #[true, false, false, false, false, false, false, false, false, false, false, false, false, false] rfl rfl (by kernel_rfl) (fun _ _ _ h => h) (Or.inl ⟨by rfl, ?_⟩) ?_ ?_
     rotate_left
     ·intro w'
      go_simp
      with_reducible rfl
     rotate_left
     ·simp only [Act.put, List.setIfInBounds_toArray, List.set_cons_zero, List.set_cons_succ, i64_w, i32_w]
      rfl
     refine pure_ (i := 1) (N := some 69) (v := ?_) (a' := ?_) #[true, true, false, false, false, false, false, false, false, false, false, false, false, false] rfl rfl (by kernel_rfl) (fun _ _ _ h => h) (Or.inl ⟨by rfl, ?_⟩) ?_ ?_
     rotate_left
     ·intro w'
      go_simp
      with_reducible rfl
     rotate_left
     ·simp only [Act.put, List.setIfInBounds_toArray, List.set_cons_zero, List.set_cons_succ, i64_w, i32_w]
      rfl
     refine pure_ (i := 3) (N := some 71) (v := ?_) (a' := ?_) #[true, true, false, true, false, false, false, false, false, false, false, false, false, false] rfl rfl (by kernel_rfl) (fun _ _ _ h => h) (Or.inl ⟨by rfl, ?_⟩) ?_ ?_
     rotate_left
     ·intro w'
      go_simp
      with_reducible rfl
     rotate_left
     ·simp only [Act.put, List.setIfInBounds_toArray, List.set_cons_zero, List.set_cons_succ, i64_w, i32_w]
      rfl
     refine pure_ (i := 6) (N := some 74) (v := ?_) (a' := ?_) #[true, true, false, true, false, false, true, false, false, false, false, false, false, false] rfl rfl (by kernel_rfl) (fun _ _ _ h => h) (Or.inl ⟨by rfl, ?_⟩) ?_ ?_
     rotate_left
     ·intro w'
      go_simp
      with_reducible rfl
     rotate_left
     ·simp only [Act.put, List.setIfInBounds_toArray, List.set_cons_zero, List.set_cons_succ, i64_w, i32_w]
      rfl
     refine pure_ (i := 7) (N := some 75) (v := ?_) (a' := ?_) #[true, true, false, true, false, false, true, true, false, false, false, false, false, false] rfl rfl (by kernel_rfl) (fun _ _ _ h => h) (Or.inl ⟨by rfl, ?_⟩) ?_ ?_
     rotate_left
     ·intro w'
      go_simp
      with_reducible rfl
     rotate_left
     ·simp only [Act.put, List.setIfInBounds_toArray, List.set_cons_zero, List.set_cons_succ, i64_w, i32_w]
      rfl
     refine pure_ (i := 8) (N := some 76) (v := ?_) (a' := ?_) #[true, true, false, true, false, false, true, true, true, false, false, false, false, false] rfl rfl (by kernel_rfl) (fun _ _ _ h => h) (Or.inl ⟨by rfl, ?_⟩) ?_ ?_
     rotate_left
     ·intro w'
      go_simp
      with_reducible rfl
     rotate_left
     ·simp only [Act.put, List.setIfInBounds_toArray, List.set_cons_zero, List.set_cons_succ, i64_w, i32_w]
      rfl
     refine pure_ (i := 9) (N := some 77) (v := ?_) (a' := ?_) #[true, true, false, true, false, false, true, true, true, true, false, false, false, false] rfl rfl (by kernel_rfl) (fun _ _ _ h => h) (Or.inl ⟨by rfl, ?_⟩) ?_ ?_
     rotate_left
     ·intro w'
      go_simp
      with_reducible rfl
     rotate_left
     ·simp only [Act.put, List.setIfInBounds_toArray, List.set_cons_zero, List.set_cons_succ, i64_w, i32_w]
      rfl
     refine pure_ (i := 10) (N := some 78) (v := ?_) (a' := ?_) #[true, true, false, true, false, false, true, true, true, true, true, false, false, false] rfl rfl (by kernel_rfl) (fun _ _ _ h => h) (Or.inl ⟨by rfl, ?_⟩) ?_ ?_
     rotate_left
     ·intro w'
      go_simp
      with_reducible rfl
     rotate_left
     ·simp only [Act.put, List.setIfInBounds_toArray, List.set_cons_zero, List.set_cons_succ, i64_w, i32_w]
      rfl
     refine pure_ (i := 11) (N := some 79) (v := ?_) (a' := ?_) #[true, true, false, true, false, false, true, true, true, true, true, true, false, false] rfl rfl (by kernel_rfl) (fun _ _ _ h => h) (Or.inl ⟨by rfl, ?_⟩) ?_ ?_
     rotate_left
     ·intro w'
      go_simp
      with_reducible rfl
     rotate_left
     ·simp only [Act.put, List.setIfInBounds_toArray, List.set_cons_zero, List.set_cons_succ, i64_w, i32_w]
      rfl
     refine pure_ (i := 12) (N := some 80) (v := ?_) (a' := ?_) #[true, true, false, true, false, false, true, true, true, true, true, true, true, false] rfl rfl (by kernel_rfl) (fun _ _ _ h => h) (Or.inl ⟨by rfl, ?_⟩) ?_ ?_
     rotate_left
     ·intro w'
      go_simp
      with_reducible rfl
     rotate_left
     ·simp only [Act.put, List.setIfInBounds_toArray, List.set_cons_zero, List.set_cons_succ, i64_w, i32_w]
      rfl
     refine join_ (σ := Value × Nat) 2 #[true, true, true, true, true, false, true, true, true, true, true, true, true, false] (fun s => [(70, s.1), (72, .slice (some ⟨s.2, 0, none⟩) 1 1)]) (fun s w' => Kd.R (Kd.int .i64) 3 w' wr.heap.size (fun _ => True) s.1 p ∧ w'.heap[s.2]? = some (.cells #[.int .i64 (y : Int)] 3 (0, 0)) ∧ Below wr.heap.size wr w') ?_ ?_
     rotate_left
     ·intro hCont
      refine two_ (i := 2) (j := 4) (Ni := some 70) (Nj := some 72) #[true, true, true, true, false, false, true, true, true, true, true, true, true, false] #[true, true, false, true, true, false, true, true, true, true, true, true, true, false] rfl rfl rfl rfl (by kernel_rfl) (by decide) (by decide) (fun K hK => ?_) (fun K hK => ?_)
      ·skip
       refine goes_ Try.func144 (by kernel_rfl) rfl #[.slice A p.length c] (by rfl) rfl rfl (by (try simp only [List.map_toArray, List.map_cons, List.map_nil]); first | done | rfl) ?_
       refine (Zbu.calls A c p p _ (Kd.C_drew hCP_) (Kd.R_reads' HRP.out).2.1 HOWN.out).mono ?_
       rintro e wE ⟨vE, rfl, hoE, hbE⟩
       refine ⟨_, rfl, ?_⟩
       have hbE0 := below_step hbW_ hbE
       replace hoE := Kd.R_lower hoE hbW_.size
       refine hK.out _ _ trivial (fun hHeld => ?_)
       clear hK K
       refine norm_ (a' := ?_) ?_ ?_
       rotate_left
       ·show Act.put _ (some 70) _ = _
        simp only [Act.put, List.setIfInBounds_toArray, List.set_cons_zero, List.set_cons_succ, i64_w, i32_w]
        rfl
       refine one_ (i := 4) (N := some 72) #[true, true, true, true, true, false, true, true, true, true, true, true, true, false] rfl rfl (by kernel_rfl) (by decide) (fun K hK => ?_)
       refine value_ (w1 := ?_) (v := ?_) (by rfl) rfl ?_ ?_
       rotate_left 2
       ·go_simp
        constructor
        ·rfl
        ·rfl
       refine hK.out _ _ trivial (fun hHeld => ?_)
       clear hK K
       refine norm_ (a' := ?_) ?_ ?_
       rotate_left
       ·show Act.put _ (some 72) _ = _
        simp only [Act.put, List.setIfInBounds_toArray, List.set_cons_zero, List.set_cons_succ, i64_w, i32_w]
        rfl
       exact norm_ (by first | (simp only [putAll, Act.put, List.setIfInBounds_toArray, List.set_cons_zero, List.set_cons_succ]; done) | (simp only [putAll, Act.put, List.setIfInBounds_toArray, List.set_cons_zero, List.set_cons_succ]; rfl)) (hCont (vE, wE.heap.size) _ ⟨Kd.R_alloc hoE _, heap_alloc_new wE _, below_alloc hbE0 _⟩)
      ·skip
       refine value_ (w1 := ?_) (v := ?_) (by rfl) rfl ?_ ?_
       rotate_left 2
       ·go_simp
        constructor
        ·rfl
        ·rfl
       refine hK.out _ _ trivial (fun hHeld => ?_)
       clear hK K
       refine norm_ (a' := ?_) ?_ ?_
       rotate_left
       ·show Act.put _ (some 72) _ = _
        simp only [Act.put, List.setIfInBounds_toArray, List.set_cons_zero, List.set_cons_succ, i64_w, i32_w]
        rfl
       refine one_ (i := 2) (N := some 70) #[true, true, true, true, true, false, true, true, true, true, true, true, true, false] rfl rfl (by kernel_rfl) (by decide) (fun K hK => ?_)
       refine goes_ Try.func144 (by kernel_rfl) rfl #[.slice A p.length c] (by rfl) rfl rfl (by (try simp only [List.map_toArray, List.map_cons, List.map_nil]); first | done | rfl) ?_
       refine (Zbu.calls A c p p _ (Kd.C_below hCP_ (below_alloc hbW_ (.cells #[.int .i64 (y : Int)] 3))) (Kd.R_reads' HRP.out).2.1 HOWN.out).mono ?_
       rintro e wE ⟨vE, rfl, hoE, hbE⟩
       refine ⟨_, rfl, ?_⟩
       have hx1_ := (hbE.block wr.drew.heap.size (heap_lt_alloc _ _)).trans (heap_alloc_new wr.drew (.cells #[.int .i64 (y : Int)] 3))
       have hbE0 := below_step (below_alloc hbW_ (.cells #[.int .i64 (y : Int)] 3)) hbE
       replace hoE := Kd.R_lower hoE (below_alloc hbW_ (.cells #[.int .i64 (y : Int)] 3)).size
       refine hK.out _ _ trivial (fun hHeld => ?_)
       clear hK K
       refine norm_ (a' := ?_) ?_ ?_
       rotate_left
       ·show Act.put _ (some 70) _ = _
        simp only [Act.put, List.setIfInBounds_toArray, List.set_cons_zero, List.set_cons_succ, i64_w, i32_w]
        rfl
       exact norm_ (by first | (simp only [putAll, Act.put, List.setIfInBounds_toArray, List.set_cons_zero, List.set_cons_succ]; done) | (simp only [putAll, Act.put, List.setIfInBounds_toArray, List.set_cons_zero, List.set_cons_succ]; rfl)) (hCont (vE, wr.drew.heap.size) _ ⟨hoE, hx1_, hbE0⟩)
     rintro ⟨v70_, b_⟩ w20_ ⟨hoT_, hbx_, hbT_⟩
     have hHeld : True := trivial
     refine norm_ (a' := ?_) ?_ ?_
     rotate_left
     ·simp only [putAll, Act.put, List.setIfInBounds_toArray, List.set_cons_zero, List.set_cons_succ]
      rfl
     refine one_ (i := 5) (N := some 73) #[true, true, true, true, true, true, true, true, true, true, true, true, true, false] rfl rfl (by kernel_rfl) (by decide) (fun K hK => ?_)
     refine Kd.R_append_rows_step (Kd.int .i64) (w0 := wr) wr.heap.size (by rfl) (.tmp 70) (.tmp 72) 24 3 (.int .i64 0) 8 rfl Try.underlying24 info3 rfl (by decide) (by omega) v70_ p [(y : Int)] (some ⟨b_, 0, none⟩) 1 1 (fun _ => True) (fun _ => False) rfl rfl ?aO ?aR (fun _ _ h => h) (fun _ h => h.elim) (fun _ _ => trivial) ?aB ?aS ?aL ?_
     case aO => exact hoT_
     case aR => exact (C_box hbx_)
     case aB => exact hbT_
     case aS => exact hbT_.size
     case aL => have := HLT.out; have := HN.out; (try simp only [List.length_cons, List.length_nil]); omega
     intro v73 w5 ho5 hb5 hg5 ha5
     rw [HNX.out] at ho5
     obtain ⟨A5, c5, e5⟩ := Kd.R_slice ho5
     subst e5
     have HV5 := Aside0.mk (show Kd.R (Kd.int .i64) 3 w5 wb.heap.size (fun k => ¬ k = pc) (.slice A5 nx.length c5) nx from Kd.R_lower (Kd.R_mono (Kd.R_bound ho5) (fun k hk => by have h1 := lt_of_cells HI_.out.cnt; have h2 := hk.2.1; omega)) HSZ_.out)
     have HB5 := Aside0.mk hb5
     clear ho5 hb5 hg5 ha5 hoT_ hbx_ hbT_
     refine hK.out _ _ trivial (fun hHeld => ?_)
     clear hK K
     refine norm_ (a' := ?_) ?_ ?_
     rotate_left
     ·show Act.put _ (some 73) _ = _
      simp only [Act.put, List.setIfInBounds_toArray, List.set_cons_zero, List.set_cons_succ, i64_w, i32_w]
      rfl
     refine one_ (i := 13) (N := some 81) #[true, true, true, true, true, true, true, true, true, true, true, true, true, true] rfl rfl (by kernel_rfl) (by decide) (fun K hK => ?_)
     rw [gr_or_bit HND.out HY60.out, HN2.out]
     refine goes_ Try.func138 (by kernel_rfl) rfl #[.slice AP ps.length cP, .slice A5 nx.length c5, .int .i64 (n2 : Int), .int .i64 (edges : Int), .pointer (some ⟨pc, 0, none⟩), .pointer (some ⟨pf, 0, none⟩)] (by rfl) rfl rfl (by (try simp only [List.map_toArray, List.map_cons, List.map_nil]); first | done | rfl) ?_
     refine (IH.out s1 s2 nx n2 edges A5 c5 w5 (by have := HLA.out; have := HLT.out; omega) HNXB.out HN2L.out HED2.out (HI_.out.below HB5.out) (HBB_.out.trans (HB5.out.mono HSZ_.out)) HV5.out HQ.out).mono ?_
     rintro e w7 ⟨rfl, hI7, hB7, hK7⟩
     refine ⟨_, rfl, ?_⟩
     have HI7 := Aside0.mk hI7
     have HB7 := Aside0.mk hB7
     have HK7 := Aside0.mk hK7
     clear hI7 hB7 hK7
     refine hK.out _ _ trivial (fun hHeld => ?_)
     clear hK K
     refine norm_ (a' := ?_) ?_ ?_
     rotate_left
     ·show Act.put _ (some 81) _ = _
      simp only [Act.put, List.setIfInBounds_toArray, List.set_cons_zero, List.set_cons_succ, i64_w, i32_w]
      rfl
     refine done_ (by kernel_rfl) ?_
     try go_wp2
     go_roundw
     case rel => exact ⟨y + 1, s2, HLTY.out, by go_num, HI7, ⟨HB1.out.trans ((HB5.out.mono HSZ_.out).trans HB7.out)⟩, ⟨HK1.out.trans ((KeepI.of_below HB5.out).trans HK7.out)⟩, HREST⟩
     case measure => simp [intOf]; have := HLTY.out; omega
    ·rw [if_neg hp0] at h1
     have c3 : decide (0 < (p.length : Int)) = true := decide_eq_true (by omega)
     have c3n : decide (0 < p.length) = true := decide_eq_true (by omega)
     by_cases hix : 0 ≤ rd ps (p.length : Int) ∧ rd ps (p.length : Int) < (p.length : Int)
     rotate_left
     ·rw [if_neg hix] at h1
      cases h1
     rw [if_pos hix] at h1
     obtain ⟨ix, hixe⟩ : ∃ ix, rd ps (p.length : Int) = ix := ⟨_, rfl⟩
     rw [hixe] at h1 hix
     obtain ⟨z, hz⟩ : ∃ z, rd p ix = z := ⟨_, rfl⟩
     have hzb : 0 ≤ z ∧ z < 50 := by
      rw [← hz]
      have e := rd_nat p ix.toNat (by omega)
      rw [Int.toNat_of_nonneg hix.1] at e
      rw [e]
      exact HPX.out _ (List.getElem_mem _)
     rw [hz] at h1
     have hy50 : y < 50 := by have := HLTY.out; have := HN.out; omega
     obtain ⟨ed, hed⟩ : ∃ ed, ((y : Int) - z).natAbs = ed := ⟨_, rfl⟩
     have HABS := Aside0.mk (show Zbx.f (wrap64 ((y : Int) - z)) = some (ed : Int) by rw [wrap_in (by omega) (by omega), ← hed]; exact gr_abs (by omega))
     have HED60 := Aside0.mk (show ed < 60 by omega)
     rw [hed] at h1
     have p1 : 0 ≤ (p.length : Int) := by omega
     have q1 : (p.length : Int) < (ps.length : Int) := by have := HLT.out; omega
     obtain ⟨adP, eP, hxP⟩ := Kd.at_int HCPr.out (p.length : Int) p1 q1
     have p2 : 0 ≤ ix := hix.1
     have q2 : ix < (p.length : Int) := hix.2
     obtain ⟨adA, eA, hxA⟩ := Kd.at_int (Kd.R_reads' HRP.out).2.2 ix p2 q2
     rw [hixe] at hxP
     rw [Int.toNat_natCast] at hxP
     rw [hz] at hxA
     have HP0 := Aside0.mk hp0
     cases eP
     cases eA
     replace p1 := eq_true p1
     replace q1 := eq_true q1
     replace p2 := eq_true p2
     replace q2 := eq_true q2
     clear hix hixe hz hed hzb hp0 hy50
     by_cases heb : edges.testBit ed = true
     ·have HREST := Aside0.mk (show grLoop (grF ps k) ps p nodes edges (ps.length - (y + 1)) (y + 1) s1 = some s' by rw [← h1]; exact (if_pos heb).symm)
      have c4 : (((edges : Int) / 2 ^ min ed 64).tmod 2 == 1) = true := by rw [Nat.min_eq_left (by have := HED60.out; omega), gr_bit_int, if_pos heb]; rfl
      have c4p : (((edges : Int) / 2 ^ ed).tmod 2 == 1) = true := by rw [gr_bit_int, if_pos heb]; rfl
      clear h1 heb
      go_wp2_with (first | ((with_reducible refine gate_callee (f := 136) rfl ?_); refine goesA (some 58) Try.func136 #[.int .i64 (wrap64 ((y : Int) - z))] ?_; refine (Zbx.calls (wrap64 ((y : Int) - z)) (ed : Int) _ HABS.out).mono ?_; rintro e w2 ⟨rfl, ⟨nd, rfl⟩⟩; refine ⟨_, rfl, ?_⟩))
      go_roundw
      case rel => exact ⟨y + 1, s1, HLTY.out, by go_num, ⟨HI1.out.below (pw_below_drewN (Below.refl _ _) _)⟩, ⟨HB1.out.trans (pw_below_drewN (Below.refl _ _) _)⟩, ⟨HK1.out.trans (KeepI.of_below (pw_below_drewN (Below.refl _ _) _))⟩, HREST⟩
      case measure => simp [intOf]; have := HLTY.out; omega
     have c4 : (((edges : Int) / 2 ^ min ed 64).tmod 2 == 1) = false := by rw [Nat.min_eq_left (by have := HED60.out; omega), gr_bit_int, if_neg heb]; rfl
     have c4p : (((edges : Int) / 2 ^ ed).tmod 2 == 1) = false := by rw [gr_bit_int, if_neg heb]; rfl
     rw [if_neg heb] at h1
     obtain ⟨e2, he2⟩ : ∃ e2, edges ||| 2 ^ ed = e2 := ⟨_, rfl⟩
     have HED2 := Aside0.mk (show e2 < 2 ^ 60 from he2 ▸ gr_or_lt HED.out HED60.out)
     rw [he2] at h1
     have HE2 := Aside0.mk he2
     clear he2
     obtain ⟨s2, hq, h1⟩ := Option.bind_eq_some_iff.1 h1
     have HQ := Aside0.mk hq
     have HREST := Aside0.mk h1
     clear h1 hq heb
     go_upto_region 14 with (first | ((with_reducible refine gate_callee (f := 136) rfl ?_); refine goesA (some 58) Try.func136 #[.int .i64 (wrap64 ((y : Int) - z))] ?_; refine (Zbx.calls (wrap64 ((y : Int) - z)) (ed : Int) _ HABS.out).mono ?_; rintro e w2 ⟨rfl, ⟨nd, rfl⟩⟩; refine ⟨_, rfl, ?_⟩))
     rw [Nat.min_eq_left (show ed ≤ 64 by have := HED60.out; omega), gr_or_bit HED.out HED60.out, HE2.out]
     have HI_ := Aside0.mk (HI1.out.below (pw_below_drewN (Below.refl _ _) nd))
     have HBB_ := Aside0.mk (pw_below_drewN HBB1.out nd)
     have HSZ_ := Aside0.mk HBB_.out.size
     have hCP_ := Kd.C_drewN (Kd.R_reads' HRP.out).2.2 nd
     have HBX := Aside0.mk (pw_below_drewN HB1.out nd)
     have HKX := Aside0.mk (HK1.out.trans (KeepI.of_below (pw_below_drewN (Below.refl _ _) nd)))
     clear hxP hxA
     generalize wr.drewN nd = wx at HI_ HBB_ HSZ_ hCP_ HBX HKX ⊢
     have hbW_ : Below wx.heap.size wx wx.drew := below_drew1 (Below.refl _ _)
     refine start_ (n := 14) (S := fun w' => True) (ds := []) #[false, false, false, false, false, false, false, false, false, false, false, false, false, false] (by kernel_rfl) rfl rfl trivial (fun hHeld => ?_)
     refine pure_ (i := 0) (N := some 68) (v := ?_) (a' := ?_) #[true, false, false, false, false, false, false, false, false, false, false, false, false, false] rfl rfl (by kernel_rfl) (fun _ _ _ h => h) (Or.inl ⟨by rfl, ?_⟩) ?_ ?_
     rotate_left
     ·intro w'
      go_simp
      with_reducible rfl
     rotate_left
     ·simp only [Act.put, List.setIfInBounds_toArray, List.set_cons_zero, List.set_cons_succ, i64_w, i32_w]
      rfl
     refine pure_ (i := 1) (N := some 69) (v := ?_) (a' := ?_) #[true, true, false, false, false, false, false, false, false, false, false, false, false, false] rfl rfl (by kernel_rfl) (fun _ _ _ h => h) (Or.inl ⟨by rfl, ?_⟩) ?_ ?_
     rotate_left
     ·intro w'
      go_simp
      with_reducible rfl
     rotate_left
     ·simp only [Act.put, List.setIfInBounds_toArray, List.set_cons_zero, List.set_cons_succ, i64_w, i32_w]
      rfl
     refine pure_ (i := 3) (N := some 71) (v := ?_) (a' := ?_) #[true, true, false, true, false, false, false, false, false, false, false, false, false, false] rfl rfl (by kernel_rfl) (fun _ _ _ h => h) (Or.inl ⟨by rfl, ?_⟩) ?_ ?_
     rotate_left
     ·intro w'
      go_simp
      with_reducible rfl
     rotate_left
     ·simp only [Act.put, List.setIfInBounds_toArray, List.set_cons_zero, List.set_cons_succ, i64_w, i32_w]
      rfl
     refine pure_ (i := 6) (N := some 74) (v := ?_) (a' := ?_) #[true, true, false, true, false, false, true, false, false, false, false, false, false, false] rfl rfl (by kernel_rfl) (fun _ _ _ h => h) (Or.inl ⟨by rfl, ?_⟩) ?_ ?_
     rotate_left
     ·intro w'
      go_simp
      with_reducible rfl
     rotate_left
     ·simp only [Act.put, List.setIfInBounds_toArray, List.set_cons_zero, List.set_cons_succ, i64_w, i32_w]
      rfl
     refine pure_ (i := 7) (N := some 75) (v := ?_) (a' := ?_) #[true, true, false, true, false, false, true, true, false, false, false, false, false, false] rfl rfl (by kernel_rfl) (fun _ _ _ h => h) (Or.inl ⟨by rfl, ?_⟩) ?_ ?_
     rotate_left
     ·intro w'
      go_simp
      with_reducible rfl
     rotate_left
     ·simp only [Act.put, List.setIfInBounds_toArray, List.set_cons_zero, List.set_cons_succ, i64_w, i32_w]
      rfl
     refine pure_ (i := 8) (N := some 76) (v := ?_) (a' := ?_) #[true, true, false, true, false, false, true, true, true, false, false, false, false, false] rfl rfl (by kernel_rfl) (fun _ _ _ h => h) (Or.inl ⟨by rfl, ?_⟩) ?_ ?_
     rotate_left
     ·intro w'
      go_simp
      with_reducible rfl
     rotate_left
     ·simp only [Act.put, List.setIfInBounds_toArray, List.set_cons_zero, List.set_cons_succ, i64_w, i32_w]
      rfl
     refine pure_ (i := 9) (N := some 77) (v := ?_) (a' := ?_) #[true, true, false, true, false, false, true, true, true, true, false, false, false, false] rfl rfl (by kernel_rfl) (fun _ _ _ h => h) (Or.inl ⟨by rfl, ?_⟩) ?_ ?_
     rotate_left
     ·intro w'
      go_simp
      with_reducible rfl
     rotate_left
     ·simp only [Act.put, List.setIfInBounds_toArray, List.set_cons_zero, List.set_cons_succ, i64_w, i32_w]
      rfl
     refine pure_ (i := 10) (N := some 78) (v := ?_) (a' := ?_) #[true, true, false, true, false, false, true, true, true, true, true, false, false, false] rfl rfl (by kernel_rfl) (fun _ _ _ h => h) (Or.inl ⟨by rfl, ?_⟩) ?_ ?_
     rotate_left
     ·intro w'
      go_simp
      with_reducible rfl
     rotate_left
     ·simp only [Act.put, List.setIfInBounds_toArray, List.set_cons_zero, List.set_cons_succ, i64_w, i32_w]
      rfl
     refine pure_ (i := 11) (N := some 79) (v := ?_) (a' := ?_) #[true, true, false, true, false, false, true, true, true, true, true, true, false, false] rfl rfl (by kernel_rfl) (fun _ _ _ h => h) (Or.inl ⟨by rfl, ?_⟩) ?_ ?_
     rotate_left
     ·intro w'
      go_simp
      with_reducible rfl
     rotate_left
     ·simp only [Act.put, List.setIfInBounds_toArray, List.set_cons_zero, List.set_cons_succ, i64_w, i32_w]
      rfl
     refine pure_ (i := 12) (N := some 80) (v := ?_) (a' := ?_) #[true, true, false, true, false, false, true, true, true, true, true, true, true, false] rfl rfl (by kernel_rfl) (fun _ _ _ h => h) (Or.inl ⟨by rfl, ?_⟩) ?_ ?_
     rotate_left
     ·intro w'
      go_simp
      with_reducible rfl
     rotate_left
     ·simp only [Act.put, List.setIfInBounds_toArray, List.set_cons_zero, List.set_cons_succ, i64_w, i32_w]
      rfl
     refine join_ (σ := Value × Nat) 2 #[true, true, true, true, true, false, true, true, true, true, true, true, true, false] (fun s => [(70, s.1), (72, .slice (some ⟨s.2, 0, none⟩) 1 1)]) (fun s w' => Kd.R (Kd.int .i64) 3 w' wx.heap.size (fun _ => True) s.1 p ∧ w'.heap[s.2]? = some (.cells #[.int .i64 (y : Int)] 3 (0, 0)) ∧ Below wx.heap.size wx w') ?_ ?_
     rotate_left
     ·intro hCont
      refine two_ (i := 2) (j := 4) (Ni := some 70) (Nj := some 72) #[true, true, true, true, false, false, true, true, true, true, true, true, true, false] #[true, true, false, true, true, false, true, true, true, true, true, true, true, false] rfl rfl rfl rfl (by kernel_rfl) (by decide) (by decide) (fun K hK => ?_) (fun K hK => ?_)
      ·skip
       refine goes_ Try.func144 (by kernel_rfl) rfl #[.slice (some adA) p.length c] (by rfl) rfl rfl (by (try simp only [List.map_toArray, List.map_cons, List.map_nil]); first | done | rfl) ?_
       refine (Zbu.calls (some adA) c p p _ (Kd.C_drew hCP_) (Kd.R_reads' HRP.out).2.1 HOWN.out).mono ?_
       rintro e wE ⟨vE, rfl, hoE, hbE⟩
       refine ⟨_, rfl, ?_⟩
       have hbE0 := below_step hbW_ hbE
       replace hoE := Kd.R_lower hoE hbW_.size
       refine hK.out _ _ trivial (fun hHeld => ?_)
       clear hK K
       refine norm_ (a' := ?_) ?_ ?_
       rotate_left
       ·show Act.put _ (some 70) _ = _
        simp only [Act.put, List.setIfInBounds_toArray, List.set_cons_zero, List.set_cons_succ, i64_w, i32_w]
        rfl
       refine one_ (i := 4) (N := some 72) #[true, true, true, true, true, false, true, true, true, true, true, true, true, false] rfl rfl (by kernel_rfl) (by decide) (fun K hK => ?_)
       refine value_ (w1 := ?_) (v := ?_) (by rfl) rfl ?_ ?_
       rotate_left 2
       ·go_simp
        constructor
        ·rfl
        ·rfl
       refine hK.out _ _ trivial (fun hHeld => ?_)
       clear hK K
       refine norm_ (a' := ?_) ?_ ?_
       rotate_left
       ·show Act.put _ (some 72) _ = _
        simp only [Act.put, List.setIfInBounds_toArray, List.set_cons_zero, List.set_cons_succ, i64_w, i32_w]
        rfl
       exact norm_ (by first | (simp only [putAll, Act.put, List.setIfInBounds_toArray, List.set_cons_zero, List.set_cons_succ]; done) | (simp only [putAll, Act.put, List.setIfInBounds_toArray, List.set_cons_zero, List.set_cons_succ]; rfl)) (hCont (vE, wE.heap.size) _ ⟨Kd.R_alloc hoE _, heap_alloc_new wE _, below_alloc hbE0 _⟩)
      ·skip
       refine value_ (w1 := ?_) (v := ?_) (by rfl) rfl ?_ ?_
       rotate_left 2
       ·go_simp
        constructor
        ·rfl
        ·rfl
       refine hK.out _ _ trivial (fun hHeld => ?_)
       clear hK K
       refine norm_ (a' := ?_) ?_ ?_
       rotate_left
       ·show Act.put _ (some 72) _ = _
        simp only [Act.put, List.setIfInBounds_toArray, List.set_cons_zero, List.set_cons_succ, i64_w, i32_w]
        rfl
       refine one_ (i := 2) (N := some 70) #[true, true, true, true, true, false, true, true, true, true, true, true, true, false] rfl rfl (by kernel_rfl) (by decide) (fun K hK => ?_)
       refine goes_ Try.func144 (by kernel_rfl) rfl #[.slice (some adA) p.length c] (by rfl) rfl rfl (by (try simp only [List.map_toArray, List.map_cons, List.map_nil]); first | done | rfl) ?_
       refine (Zbu.calls (some adA) c p p _ (Kd.C_below hCP_ (below_alloc hbW_ (.cells #[.int .i64 (y : Int)] 3))) (Kd.R_reads' HRP.out).2.1 HOWN.out).mono ?_
       rintro e wE ⟨vE, rfl, hoE, hbE⟩
       refine ⟨_, rfl, ?_⟩
       have hx1_ := (hbE.block wx.drew.heap.size (heap_lt_alloc _ _)).trans (heap_alloc_new wx.drew (.cells #[.int .i64 (y : Int)] 3))
       have hbE0 := below_step (below_alloc hbW_ (.cells #[.int .i64 (y : Int)] 3)) hbE
       replace hoE := Kd.R_lower hoE (below_alloc hbW_ (.cells #[.int .i64 (y : Int)] 3)).size
       refine hK.out _ _ trivial (fun hHeld => ?_)
       clear hK K
       refine norm_ (a' := ?_) ?_ ?_
       rotate_left
       ·show Act.put _ (some 70) _ = _
        simp only [Act.put, List.setIfInBounds_toArray, List.set_cons_zero, List.set_cons_succ, i64_w, i32_w]
        rfl
       exact norm_ (by first | (simp only [putAll, Act.put, List.setIfInBounds_toArray, List.set_cons_zero, List.set_cons_succ]; done) | (simp only [putAll, Act.put, List.setIfInBounds_toArray, List.set_cons_zero, List.set_cons_succ]; rfl)) (hCont (vE, wx.drew.heap.size) _ ⟨hoE, hx1_, hbE0⟩)
     rintro ⟨v70_, b_⟩ w20_ ⟨hoT_, hbx_, hbT_⟩
     have hHeld : True := trivial
     refine norm_ (a' := ?_) ?_ ?_
     rotate_left
     ·simp only [putAll, Act.put, List.setIfInBounds_toArray, List.set_cons_zero, List.set_cons_succ]
      rfl
     refine one_ (i := 5) (N := some 73) #[true, true, true, true, true, true, true, true, true, true, true, true, true, false] rfl rfl (by kernel_rfl) (by decide) (fun K hK => ?_)
     refine Kd.R_append_rows_step (Kd.int .i64) (w0 := wx) wx.heap.size (by rfl) (.tmp 70) (.tmp 72) 24 3 (.int .i64 0) 8 rfl Try.underlying24 info3 rfl (by decide) (by omega) v70_ p [(y : Int)] (some ⟨b_, 0, none⟩) 1 1 (fun _ => True) (fun _ => False) rfl rfl ?aO ?aR (fun _ _ h => h) (fun _ h => h.elim) (fun _ _ => trivial) ?aB ?aS ?aL ?_
     case aO => exact hoT_
     case aR => exact (C_box hbx_)
     case aB => exact hbT_
     case aS => exact hbT_.size
     case aL => have := HLT.out; have := HN.out; (try simp only [List.length_cons, List.length_nil]); omega
     intro v73 w5 ho5 hb5 hg5 ha5
     rw [HNX.out] at ho5
     obtain ⟨A5, c5, e5⟩ := Kd.R_slice ho5
     subst e5
     have HV5 := Aside0.mk (show Kd.R (Kd.int .i64) 3 w5 wb.heap.size (fun k => ¬ k = pc) (.slice A5 nx.length c5) nx from Kd.R_lower (Kd.R_mono (Kd.R_bound ho5) (fun k hk => by have h1 := lt_of_cells HI_.out.cnt; have h2 := hk.2.1; omega)) HSZ_.out)
     have HB5 := Aside0.mk hb5
     clear ho5 hb5 hg5 ha5 hoT_ hbx_ hbT_
     refine hK.out _ _ trivial (fun hHeld => ?_)
     clear hK K
     refine norm_ (a' := ?_) ?_ ?_
     rotate_left
     ·show Act.put _ (some 73) _ = _
      simp only [Act.put, List.setIfInBounds_toArray, List.set_cons_zero, List.set_cons_succ, i64_w, i32_w]
      rfl
     refine one_ (i := 13) (N := some 81) #[true, true, true, true, true, true, true, true, true, true, true, true, true, true] rfl rfl (by kernel_rfl) (by decide) (fun K hK => ?_)
     rw [gr_or_bit HND.out HY60.out, HN2.out]
     refine goes_ Try.func138 (by kernel_rfl) rfl #[.slice (some adP) ps.length cP, .slice A5 nx.length c5, .int .i64 (n2 : Int), .int .i64 (e2 : Int), .pointer (some ⟨pc, 0, none⟩), .pointer (some ⟨pf, 0, none⟩)] (by rfl) rfl rfl (by (try simp only [List.map_toArray, List.map_cons, List.map_nil]); first | done | rfl) ?_
     refine (IH.out s1 s2 nx n2 e2 A5 c5 w5 (by have := HLA.out; have := HLT.out; omega) HNXB.out HN2L.out HED2.out (HI_.out.below HB5.out) (HBB_.out.trans (HB5.out.mono HSZ_.out)) HV5.out HQ.out).mono ?_
     rintro e w7 ⟨rfl, hI7, hB7, hK7⟩
     refine ⟨_, rfl, ?_⟩
     have HI7 := Aside0.mk hI7
     have HB7 := Aside0.mk hB7
     have HK7 := Aside0.mk hK7
     clear hI7 hB7 hK7
     refine hK.out _ _ trivial (fun hHeld => ?_)
     clear hK K
     refine norm_ (a' := ?_) ?_ ?_
     rotate_left
     ·show Act.put _ (some 81) _ = _
      simp only [Act.put, List.setIfInBounds_toArray, List.set_cons_zero, List.set_cons_succ, i64_w, i32_w]
      rfl
     refine done_ (by kernel_rfl) ?_
     try go_wp2
     go_roundw
     case rel => exact ⟨y + 1, s2, HLTY.out, by go_num, HI7, ⟨HBX.out.trans ((HB5.out.mono HSZ_.out).trans HB7.out)⟩, ⟨HKX.out.trans ((KeepI.of_below HB5.out).trans HK7.out)⟩, HREST⟩
     case measure => simp [intOf]; have := HLTY.out; omega
def Zbs.f (l0 : List Int) : Option (List Int) := if l0.length < 17592186044416 then some l0 else none
theorem Zbs.app_room {y l : List Int} (h1 : l.length < 17592186044416) (h2 : y = []) : (y.length + l.length) * 8 ≤ 140737488355328 := by
 subst h2; simp; omega
theorem Zbs.calls (A0 : Option Addr) (c0 : Nat) (l0 : List Int) (r : List Int) (w : World) (hr0 : Kd.C (Kd.int .i64) w A0 l0.length l0) (hc0 : l0.length ≤ c0) (h : Zbs.f l0 = some r) :
  Calls Try.prog 101 #[.slice A0 l0.length c0] w fun e w' => ∃ v0_ : Value, e = .returned (v0_) ∧ Kd.R (Kd.int .i64) 3 w' w.heap.size (fun _ => True) v0_ r ∧ Below w.heap.size w w' := by
 have HR0 := Aside0.mk hr0
 have hlen : l0.length < 17592186044416 := by
  unfold Zbs.f at h
  split at h
  ·assumption
  ·cases h
 obtain rfl : l0 = r := by
  unfold Zbs.f at h
  rw [if_pos hlen] at h
  exact Option.some.inj h
 have LM := Aside0.mk hlen
 have HB := Aside0.mk (Below.refl w.heap.size w)
 have hu := Try.underlying24
 have heq := fun (w : World) => Lib.run_eql_slice_nil (P := Try.prog) w 24 3 A0 l0.length c0 0 0 hu
 clear h hlen hc0
 cases A0 with
 | none =>
  have hl : l0 = [] := by
   cases l0 with
   | nil => rfl
   | cons x xs =>
    obtain ⟨ad, e, _⟩ := hr0.2.2 (by simp)
    cases e
  have HL := Aside0.mk hl
  clear hr0 hl
  go_enter Try.func101, Try.ntmps101
  go_wp2
  go_ret
  exact ⟨_, rfl, by rw [HL.out]; exact Kd.R_nil _ _ _ _ _, atB HB⟩
 | some ad =>
  clear hr0
  obtain ⟨y113, hy113⟩ : ∃ y_ : List Int, y_ = (([] : List Int)) := ⟨_, rfl⟩
  have Ny113 := Aside0.mk hy113
  clear hy113
  obtain ⟨y116, hy116⟩ : ∃ y_ : List Int, y_ = (y113 ++ l0) := ⟨_, rfl⟩
  have Ny116 := Aside0.mk hy116
  clear hy116
  go_enter Try.func101, Try.ntmps101
  go_wp2_with (first | ((with_reducible refine gate_dst (N := 5) rfl ?_); refine Kd.R_lit (Kd.int .i64) _ 3 ?hg (N := 5) ?hd (xs := ([] : List Int)) (inner := []) (ok := fun _ => True) (okp := fun _ => True) ?hr ?hp (fun _ hk => hk) trivial (Below.refl _ _) (Nat.le_refl _) (by simp) ?_; (case hd => rfl); (case hg => rfl); (case hr => first | (go_simp; done) | (go_simp; rfl)); (case hp => exact (Reps.none _ _)); intro v114 w3 ho4 hb hg_ hnew_; clear hg_ hnew_; (first | rw [← Ny113.out] at ho4 | (simp only [Int.reduceToNat] at ho4; rw [← Ny113.out] at ho4)); have HO115 := lowR ho4 HB; replace HB := upB HB hb; clear hb ho4) | ((with_reducible refine gate_builtin (b := .append) (xs := #[.tmp 5, .tmp 6]) rfl ?_); at_builtin; refine Kd.R_append_rows (Kd.int .i64) (w0 := w) w.heap.size rfl (.tmp 5) (.tmp 6) 24 3 (.int .i64 0) 8 rfl Try.underlying24 info3 rfl (by decide) (by omega) v114 y113 l0 _ _ _ (fun _ => True) (fun _ => False) rfl rfl ?aO ?aR (fun _ _ h => h) (fun _ h => h.elim) ?aF ?aB ?aS ?aL ?_; (case aR => repeat (first | exact (Kd.C_below HR0.out HB.out) | (with_reducible refine Kd.C_alloc ?_ _) | (with_reducible refine Kd.C_drewN ?_ _) | (with_reducible refine Kd.C_drew ?_))); (case aB => exact (atB HB)); (case aF => exact (fun _ _ => trivial)); (case aO => exact (atR HO115)); (case aS => exact (szB HB)); (case aL => exact Zbs.app_room LM.out Ny113.out); intro v117 w5 ho hb hg hat; rw [← Ny116.out] at ho; have HO118 := Aside0.mk (ho); replace HB := Aside0.mk (hb); clear HO115; clear ho hb hg hat))
  go_ret
  exact ⟨_, rfl, by (with_reducible repeat (first | apply Kd.R_alloc | apply Kd.R_drewN | apply Kd.R_drew)); have h := HO118.out; rw [Ny116.out, Ny113.out, List.nil_append] at h; exact h, atB HB⟩
def graceLoop (kk : Nat) {σ : Type} (rec : σ → List Int → Option (σ × Bool)) (ps p : List Int) : Nat → Nat → σ → Option (σ × Bool)
 | 0, _, s => some (s, false)
 | m + 1, y, s => (Zan.f kk p (y : Int)).bind fun t => if t = true then graceLoop kk rec ps p m (y + 1) s else (Zaj.f kk ps (p ++ [(y : Int)])).bind fun ed => (Zau.f kk ed).bind fun c => if c = true then ((rec s (p ++ [(y : Int)])).bind fun q => if q.2 = true then some (q.1, true) else graceLoop kk rec ps p m (y + 1) q.1) else graceLoop kk rec ps p m (y + 1) s
def graceF (kk : Nat) {σ : Type} (each : σ → List Int → Option (σ × Bool)) (ps : List Int) : Nat → σ → List Int → Option (σ × Bool)
 | 0, _, _ => none
 | k + 1, s, p => if p.length = ps.length then each s p else graceLoop kk (graceF kk each ps k) ps p ps.length 0 s
theorem graceLoop_mono (kk : Nat) {σ : Type} {rec rec' : σ → List Int → Option (σ × Bool)} (hr : ∀ s p, LeO (rec s p) (rec' s p)) (ps p : List Int) : ∀ (m y : Nat) (s : σ), LeO (graceLoop kk rec ps p m y s) (graceLoop (kk + 1) rec' ps p m y s)
 | 0, _, _ => LeO.refl _
 | m + 1, y, s => LeO.bind (Zan.mono _ _ _) (fun _ => LeO.ite (graceLoop_mono kk hr ps p m (y + 1) s) (LeO.bind (Zaj.mono _ _ _) (fun _ => LeO.bind (Zau.mono _ _) (fun _ => LeO.ite (LeO.bind (hr _ _) (fun q => LeO.ite (LeO.refl _) (graceLoop_mono kk hr ps p m (y + 1) q.1))) (graceLoop_mono kk hr ps p m (y + 1) s)))))
theorem graceF_mono (kk : Nat) {σ : Type} (each : σ → List Int → Option (σ × Bool)) (ps : List Int) : ∀ (k : Nat) (s : σ) (p : List Int), LeO (graceF kk each ps k s p) (graceF (kk + 1) each ps k s p)
 | 0, _, _ => LeO.refl _
 | k + 1, s, p => LeO.ite (LeO.refl _) (graceLoop_mono kk (graceF_mono kk each ps k) ps p ps.length 0 s)
noncomputable def graceLoopF {σ : Type} (rec : σ → List Int → Option (σ × Bool)) (ps p : List Int) : Nat → Nat → σ → Option (σ × Bool)
 | 0, _, s => some (s, false)
 | m + 1, y, s => (Zan.F p (y : Int)).bind fun t => if t = true then graceLoopF rec ps p m (y + 1) s else (Zaj.F ps (p ++ [(y : Int)])).bind fun ed => (Zau.F ed).bind fun c => if c = true then ((rec s (p ++ [(y : Int)])).bind fun q => if q.2 = true then some (q.1, true) else graceLoopF rec ps p m (y + 1) q.1) else graceLoopF rec ps p m (y + 1) s
noncomputable def graceFF {σ : Type} (each : σ → List Int → Option (σ × Bool)) (ps : List Int) : Nat → σ → List Int → Option (σ × Bool)
 | 0, _, _ => none
 | k + 1, s, p => if p.length = ps.length then each s p else graceLoopF (graceFF each ps k) ps p ps.length 0 s
theorem graceLoop_lim {σ : Type} {rec : Nat → σ → List Int → Option (σ × Bool)} {rec' : σ → List Int → Option (σ × Bool)} (hr : ∀ s p, Lim (fun kk => rec kk s p) (rec' s p)) (ps p : List Int) : ∀ (m y : Nat) (s : σ), Lim (fun kk => graceLoop kk (rec kk) ps p m y s) (graceLoopF rec' ps p m y s)
 | 0, _, _ => Lim.const _
 | m + 1, y, s => Lim.bind (Zan.F_lim p (y : Int)) (fun _ => Lim.ite (graceLoop_lim hr ps p m (y + 1) s) (Lim.bind (Zaj.F_lim ps (p ++ [(y : Int)])) (fun ed => Lim.bind (Zau.F_lim ed) (fun _ => Lim.ite (Lim.bind (hr _ _) (fun q => Lim.ite (Lim.const _) (graceLoop_lim hr ps p m (y + 1) q.1))) (graceLoop_lim hr ps p m (y + 1) s)))))
theorem graceF_lim {σ : Type} (each : σ → List Int → Option (σ × Bool)) (ps : List Int) : ∀ (k : Nat) (s : σ) (p : List Int), Lim (fun kk => graceF kk each ps k s p) (graceFF each ps k s p)
 | 0, _, _ => Lim.const _
 | k + 1, s, p => Lim.ite (Lim.const _) (graceLoop_lim (graceF_lim each ps k) ps p ps.length 0 s)
theorem graceful_calls (kk : Nat) {σ : Type} {wb : World} {Y : Nat → Prop} {fid : FuncId} {caps : Array Value} {each : σ → List Int → Option (σ × Bool)} {I : σ → World → Prop} (E : EachR Try.prog 3 wb.heap.size Y fid caps each I) (ps : List Int) (AP : Option Addr) (cP : Nat) (hn : ps.length ≤ 1000) (hps : Kd.C (Kd.int .i64) wb AP ps.length ps) (hcp : ps.length ≤ cP) :
  ∀ (k : Nat) (s s' : σ) (b : Bool) (p : List Int) (A : Option Addr) (c : Nat) (w0 w : World), p.length ≤ ps.length → I s w0 → wb.heap.size ≤ w0.heap.size → Below wb.heap.size wb w → Below w0.heap.size w0 w → Kd.R (Kd.int .i64) 3 w w0.heap.size (fun k => ¬ Y k) (.slice A p.length c) p → graceF kk each ps k s p = some (s', b) →
  Calls Try.prog 93 #[.slice AP ps.length cP, .slice A p.length c, .func (.func fid) #[] caps] w fun e w' => e = .returned (.bool b) ∧ I s' w' ∧ Below wb.heap.size w w' ∧ KeepI 3 Y w w' := by
 obtain ⟨fn, hf1, hf2, hf3⟩ := E.fn
 have HF1 := Aside0.mk hf1
 have HF2 := Aside0.mk hf2
 have HF3 := Aside0.mk hf3
 have HN := Aside0.mk hn
 have HPS := Aside0.mk hps
 have HCP := Aside0.mk hcp
 clear hf1 hf2 hf3 hn hps hcp
 intro k
 induction k with
 | zero =>
  intro s s' b p A c w0 w _ _ _ _ _ _ h
  cases h
 | succ k ih =>
  intro s s' b p A c w0 w hpn hI hb0 hBB hB0 hR h
  have IH := Aside0.mk ih
  have HPN := Aside0.mk hpn
  have HI := Aside0.mk hI
  have HBASE := Aside0.mk hb0
  have HBB := Aside0.mk hBB
  have HB0 := Aside0.mk hB0
  have HR := Aside0.mk hR
  by_cases hlen : p.length = ps.length
  ·have H := Aside0.mk (show each s p = some (s', b) by rw [← h]; exact (if_pos hlen).symm)
   have b1 : ((p.length : Int) == (ps.length : Int)) = true := beq_iff_eq.mpr (by omega)
   clear ih hpn hI hb0 hBB hB0 hR h hlen
   go_enter Try.func93, Try.ntmps93
   go_wp2_with (first | ((with_reducible refine gate_fval (p := 14) rfl ?_); refine goesF_ (some 16) rfl rfl HF1.out HF2.out HF3.out #[.slice A p.length c] rfl (by first | rfl | (simp [Act.eval]; done) | (simp [Act.eval]; rfl)) (by (try simp only [List.map_toArray, List.map_cons, List.map_nil]); first | done | rfl) ?_; refine (E.call s p A c w0 _ s' b HI.out HBASE.out HB0.out HR.out (by have := HPN.out; have := HN.out; omega) H.out).mono ?_; rintro e w1 ⟨rfl, hI1, hB1, hK1⟩; refine ⟨_, rfl, ?_⟩; have HI1 := Aside0.mk hI1; have HB1 := Aside0.mk hB1; have HK1 := Aside0.mk hK1; clear hI1 hB1 hK1))
   go_ret
   exact ⟨rfl, HI1.out, HB1.out, HK1.out⟩
  have H := Aside0.mk (show graceLoop kk (graceF kk each ps k) ps p ps.length 0 s = some (s', b) by rw [← h]; exact (if_neg hlen).symm)
  have b1 : ((p.length : Int) == (ps.length : Int)) = false := beq_eq_false_iff_ne.mpr (by omega)
  have HLT := Aside0.mk (show p.length < ps.length by omega)
  clear ih hpn hI hb0 hBB hB0 hR h hlen
  go_enter Try.func93, Try.ntmps93
  go_wp2
  go_loopw [19] (fun v wr => ∃ (y : Nat) (s1 : σ), y ≤ ps.length ∧ v = .int .i64 y ∧ Aside0 (I s1 wr) ∧ Aside0 (Below wb.heap.size w wr) ∧ Aside0 (KeepI 3 Y w wr) ∧ Aside0 (graceLoop kk (graceF kk each ps k) ps p (ps.length - y) y s1 = some (s', b))) (fun v _ => ps.length - (intOf v).toNat)
  case atStart => exact ⟨0, s, Nat.zero_le _, rfl, ⟨E.stable _ _ _ HI.out HB0.out⟩, ⟨Below.refl _ _⟩, ⟨KeepI.refl _ _ _⟩, ⟨by rw [Nat.sub_zero]; exact H.out⟩⟩
  case round =>
   obtain ⟨y, s1, hy, rfl, HI1, HB1, HK1, H1⟩ := hrel
   by_cases hlt : y < ps.length
   rotate_left
   ·obtain rfl : y = ps.length := by omega
    have h1 := H1.out
    rw [Nat.sub_self] at h1
    obtain ⟨rfl, rfl⟩ := Prod.mk.inj (Option.some.inj (show some (s1, false) = some (s', b) from h1))
    clear h1 H1 hlt hy
    go_wp2
    go_ret
    exact ⟨rfl, HI1.out, HB1.out, HK1.out⟩
   have h1 := H1.out
   rw [show ps.length - y = (ps.length - (y + 1)) + 1 by omega] at h1
   obtain ⟨t, ht, h1⟩ := Option.bind_eq_some_iff.1 h1
   have HKT := Aside0.mk ht
   have HRP := Aside0.mk (HK1.out.R rfl HR.out)
   have HY := Aside0.mk hlt
   have HN1 := HN.out
   have c1 : decide ((y : Int) < (ps.length : Int)) = true := decide_eq_true (by omega)
   clear H1 ht hy
   cases t with
   | true =>
    have HREST := Aside0.mk (show graceLoop kk (graceF kk each ps k) ps p (ps.length - (y + 1)) (y + 1) s1 = some (s', b) from h1)
    clear h1
    go_wp2_with (first | ((with_reducible refine gate_callee (f := 121) rfl ?_); refine goesA (some 24) Try.func121 #[.slice A p.length c, .int .i64 y] ?_; refine (Zan.calls kk A c p y true _ (Kd.R_reads' HRP.out).2.2 (Kd.R_reads' HRP.out).2.1 HKT.out).mono ?_; rintro e w2 ⟨rfl, ⟨nd, rfl⟩⟩; refine ⟨_, rfl, ?_⟩))
    go_roundw
    case rel => exact ⟨y + 1, s1, HY.out, by go_num, ⟨E.stable _ _ _ HI1.out (pw_below_drewN (Below.refl _ _) _)⟩, ⟨HB1.out.trans (pw_below_drewN (Below.refl _ _) _)⟩, ⟨HK1.out.trans (KeepI.of_below (pw_below_drewN (Below.refl _ _) _))⟩, HREST⟩
    case measure => simp [intOf]; have := HY.out; omega
   | false =>
    obtain ⟨ed, he, h1⟩ := Option.bind_eq_some_iff.1 (show (Zaj.f kk ps (p ++ [(y : Int)])).bind _ = some (s', b) from h1)
    obtain ⟨cc, hc, h1⟩ := Option.bind_eq_some_iff.1 h1
    have HCL := Aside0.mk (show Zbs.f p = some p from if_pos (by have := HLT.out; omega))
    obtain ⟨nx, hnx⟩ : ∃ nx, p ++ [(y : Int)] = nx := ⟨_, rfl⟩
    have HLA := Aside0.mk (show nx.length = p.length + 1 by rw [← hnx]; simp)
    rw [hnx] at h1 he
    have HKC := Aside0.mk hc
    have HKE := Aside0.mk he
    have HNX := Aside0.mk hnx
    clear hc hnx he
    cases cc with
    | false =>
     have HREST := Aside0.mk (show graceLoop kk (graceF kk each ps k) ps p (ps.length - (y + 1)) (y + 1) s1 = some (s', b) from h1)
     clear h1
     go_wp2_with (first | ((with_reducible refine gate_callee (f := 121) rfl ?_); refine goesA (some 24) Try.func121 #[.slice A p.length c, .int .i64 y] ?_; refine (Zan.calls kk A c p y false _ (Kd.R_reads' HRP.out).2.2 (Kd.R_reads' HRP.out).2.1 HKT.out).mono ?_; rintro e w2 ⟨rfl, ⟨nd, rfl⟩⟩; refine ⟨_, rfl, ?_⟩) | ((with_reducible refine gate_callee (f := 101) rfl ?_); refine goesA (some 26) Try.func101 #[.slice A p.length c] ?_; refine (Zbs.calls A c p p _ (Kd.R_reads' (Kd.R_drewN HRP.out nd)).2.2 (Kd.R_reads' HRP.out).2.1 HCL.out).mono ?_; rintro e w4 ⟨v4, rfl, hv4, hb4⟩; refine ⟨_, rfl, ?_⟩; obtain ⟨A4, c4, e4⟩ := Kd.R_slice hv4; subst e4; have HV4 := Aside0.mk (Kd.R_mono hv4 (fun k _ => trivial)); have HB4 := Aside0.mk (below_step (pw_below_drewN (Below.refl _ _) nd) hb4); clear hv4 hb4) | ((with_reducible refine gate_builtin (b := .append) (xs := #[.tmp 26, .tmp 28]) rfl ?_); at_builtin; refine Kd.R_append (Kd.int .i64) (w0 := wr) wr.heap.size rfl (.tmp 26) (.tmp 28) 24 3 (.int .i64 0) 8 rfl Try.underlying24 info3 rfl (by decide) (by omega) (.slice A4 p.length c4) p (y : Int) [.int .i64 (y : Int)] (fun _ => True) (fun _ => False) rfl rfl ?aP (fun _ hk => hk.elim) ?aF ?aO ?aB ?aS ?aL ?_; (case aP => exact rfl); (case aF => exact (fun _ _ => trivial)); (case aO => exact HV4.out); (case aB => exact HB4.out); (case aS => exact HB4.out.size); (case aL => have := HLT.out; have := HN.out; omega); intro v5 w5 ho5 hb5 hg5 hat5; rw [HNX.out] at ho5; have HB5 := Aside0.mk hb5; obtain ⟨A5, c5, e5⟩ := Kd.R_slice ho5; subst e5; have HV5 := Aside0.mk (show Kd.R (Kd.int .i64) 3 w5 wr.heap.size (fun k => ¬ Y k) (.slice A5 nx.length c5) nx from Kd.R_mono (Kd.R_bound ho5) (fun k hk => E.fresh _ _ k HI1.out hk.2.1)); have HBW := Aside0.mk (Nat.le_trans HBASE.out (Nat.le_trans HB0.out.size (HB1.out.size))); have HPS5 := Aside0.mk (Kd.C_below HPS.out ((HBB.out.trans HB1.out).trans (hb5.mono HBW.out))); clear ho5 hb5 hg5 hat5) | ((with_reducible refine gate_callee (f := 86) rfl ?_); refine goesA (some 32) Try.func86 #[.slice AP ps.length cP, .slice A5 nx.length c5] ?_; refine (Zaj.calls kk AP cP ps A5 c5 nx ed w5 HPS5.out HCP.out (Kd.R_reads' HV5.out).2.2 (Kd.R_reads' HV5.out).2.1 HKE.out).mono ?_; rintro e w6 ⟨v6, rfl, hv6, hb6⟩; refine ⟨_, rfl, ?_⟩; obtain ⟨A6, c6, e6⟩ := Kd.R_slice hv6; subst e6; have HE6 := Aside0.mk hv6; have HB6a := Aside0.mk hb6; have HV6a := Aside0.mk (Kd.R_below HV5.out hb6); clear hv6 hb6) | ((with_reducible refine gate_callee (f := 82) rfl ?_); refine goesA (some 33) Try.func82 #[.slice A6 ed.length c6] ?_; refine (Zau.calls kk A6 c6 ed false w6 (Kd.R_reads' HE6.out).2.2 (Kd.R_reads' HE6.out).2.1 HKC.out).mono ?_; rintro e w8 ⟨rfl, ⟨nu, rfl⟩⟩; refine ⟨_, rfl, ?_⟩; have HB6 := Aside0.mk (pw_below_drewN HB6a.out nu); have HV6 := Aside0.mk (Kd.R_drewN HV6a.out nu)))
     go_roundw
     case rel => exact ⟨y + 1, s1, HY.out, by go_num, ⟨E.stable _ _ _ HI1.out (HB5.out.trans (HB6.out.mono HB5.out.size))⟩, ⟨HB1.out.trans ((HB5.out.trans (HB6.out.mono HB5.out.size)).mono HBW.out)⟩, ⟨HK1.out.trans (KeepI.of_below (HB5.out.trans (HB6.out.mono HB5.out.size)))⟩, HREST⟩
     case measure => simp [intOf]; have := HY.out; omega
    | true =>
     obtain ⟨⟨s2, b2⟩, hq, h1⟩ := Option.bind_eq_some_iff.1 (show (graceF kk each ps k s1 nx).bind _ = some (s', b) from h1)
     have HQ := Aside0.mk hq
     clear hq
     cases b2 with
     | true =>
      obtain ⟨rfl, rfl⟩ := Prod.mk.inj (Option.some.inj (show some (s2, true) = some (s', b) from h1))
      clear h1
      go_wp2_with (first | ((with_reducible refine gate_callee (f := 121) rfl ?_); refine goesA (some 24) Try.func121 #[.slice A p.length c, .int .i64 y] ?_; refine (Zan.calls kk A c p y false _ (Kd.R_reads' HRP.out).2.2 (Kd.R_reads' HRP.out).2.1 HKT.out).mono ?_; rintro e w2 ⟨rfl, ⟨nd, rfl⟩⟩; refine ⟨_, rfl, ?_⟩) | ((with_reducible refine gate_callee (f := 101) rfl ?_); refine goesA (some 26) Try.func101 #[.slice A p.length c] ?_; refine (Zbs.calls A c p p _ (Kd.R_reads' (Kd.R_drewN HRP.out nd)).2.2 (Kd.R_reads' HRP.out).2.1 HCL.out).mono ?_; rintro e w4 ⟨v4, rfl, hv4, hb4⟩; refine ⟨_, rfl, ?_⟩; obtain ⟨A4, c4, e4⟩ := Kd.R_slice hv4; subst e4; have HV4 := Aside0.mk (Kd.R_mono hv4 (fun k _ => trivial)); have HB4 := Aside0.mk (below_step (pw_below_drewN (Below.refl _ _) nd) hb4); clear hv4 hb4) | ((with_reducible refine gate_builtin (b := .append) (xs := #[.tmp 26, .tmp 28]) rfl ?_); at_builtin; refine Kd.R_append (Kd.int .i64) (w0 := wr) wr.heap.size rfl (.tmp 26) (.tmp 28) 24 3 (.int .i64 0) 8 rfl Try.underlying24 info3 rfl (by decide) (by omega) (.slice A4 p.length c4) p (y : Int) [.int .i64 (y : Int)] (fun _ => True) (fun _ => False) rfl rfl ?aP (fun _ hk => hk.elim) ?aF ?aO ?aB ?aS ?aL ?_; (case aP => exact rfl); (case aF => exact (fun _ _ => trivial)); (case aO => exact HV4.out); (case aB => exact HB4.out); (case aS => exact HB4.out.size); (case aL => have := HLT.out; have := HN.out; omega); intro v5 w5 ho5 hb5 hg5 hat5; rw [HNX.out] at ho5; have HB5 := Aside0.mk hb5; obtain ⟨A5, c5, e5⟩ := Kd.R_slice ho5; subst e5; have HV5 := Aside0.mk (show Kd.R (Kd.int .i64) 3 w5 wr.heap.size (fun k => ¬ Y k) (.slice A5 nx.length c5) nx from Kd.R_mono (Kd.R_bound ho5) (fun k hk => E.fresh _ _ k HI1.out hk.2.1)); have HBW := Aside0.mk (Nat.le_trans HBASE.out (Nat.le_trans HB0.out.size (HB1.out.size))); have HPS5 := Aside0.mk (Kd.C_below HPS.out ((HBB.out.trans HB1.out).trans (hb5.mono HBW.out))); clear ho5 hb5 hg5 hat5) | ((with_reducible refine gate_callee (f := 86) rfl ?_); refine goesA (some 32) Try.func86 #[.slice AP ps.length cP, .slice A5 nx.length c5] ?_; refine (Zaj.calls kk AP cP ps A5 c5 nx ed w5 HPS5.out HCP.out (Kd.R_reads' HV5.out).2.2 (Kd.R_reads' HV5.out).2.1 HKE.out).mono ?_; rintro e w6 ⟨v6, rfl, hv6, hb6⟩; refine ⟨_, rfl, ?_⟩; obtain ⟨A6, c6, e6⟩ := Kd.R_slice hv6; subst e6; have HE6 := Aside0.mk hv6; have HB6a := Aside0.mk hb6; have HV6a := Aside0.mk (Kd.R_below HV5.out hb6); clear hv6 hb6) | ((with_reducible refine gate_callee (f := 82) rfl ?_); refine goesA (some 33) Try.func82 #[.slice A6 ed.length c6] ?_; refine (Zau.calls kk A6 c6 ed true w6 (Kd.R_reads' HE6.out).2.2 (Kd.R_reads' HE6.out).2.1 HKC.out).mono ?_; rintro e w8 ⟨rfl, ⟨nu, rfl⟩⟩; refine ⟨_, rfl, ?_⟩; have HB6 := Aside0.mk (pw_below_drewN HB6a.out nu); have HV6 := Aside0.mk (Kd.R_drewN HV6a.out nu)) | (go_at_call 93; refine (IH.out s1 s2 true nx A5 c5 wr (w6.drewN nu) (by have := HLA.out; have := HLT.out; omega) HI1.out HBW.out ((HBB.out.trans HB1.out).trans ((HB5.out.trans (HB6.out.mono HB5.out.size)).mono HBW.out)) (HB5.out.trans (HB6.out.mono HB5.out.size)) HV6.out HQ.out).mono ?_; rintro e w7 ⟨rfl, hI7, hB7, hK7⟩; have HI7 := Aside0.mk hI7; have HB7 := Aside0.mk hB7; have HK7 := Aside0.mk hK7; clear hI7 hB7 hK7))
      try go_wp2
      go_ret
      exact ⟨rfl, HI7.out, HB1.out.trans (((HB5.out.trans (HB6.out.mono HB5.out.size)).mono HBW.out).trans HB7.out), HK1.out.trans ((KeepI.of_below (HB5.out.trans (HB6.out.mono HB5.out.size))).trans HK7.out)⟩
     | false =>
      have HREST := Aside0.mk (show graceLoop kk (graceF kk each ps k) ps p (ps.length - (y + 1)) (y + 1) s2 = some (s', b) from h1)
      clear h1
      go_wp2_with (first | ((with_reducible refine gate_callee (f := 121) rfl ?_); refine goesA (some 24) Try.func121 #[.slice A p.length c, .int .i64 y] ?_; refine (Zan.calls kk A c p y false _ (Kd.R_reads' HRP.out).2.2 (Kd.R_reads' HRP.out).2.1 HKT.out).mono ?_; rintro e w2 ⟨rfl, ⟨nd, rfl⟩⟩; refine ⟨_, rfl, ?_⟩) | ((with_reducible refine gate_callee (f := 101) rfl ?_); refine goesA (some 26) Try.func101 #[.slice A p.length c] ?_; refine (Zbs.calls A c p p _ (Kd.R_reads' (Kd.R_drewN HRP.out nd)).2.2 (Kd.R_reads' HRP.out).2.1 HCL.out).mono ?_; rintro e w4 ⟨v4, rfl, hv4, hb4⟩; refine ⟨_, rfl, ?_⟩; obtain ⟨A4, c4, e4⟩ := Kd.R_slice hv4; subst e4; have HV4 := Aside0.mk (Kd.R_mono hv4 (fun k _ => trivial)); have HB4 := Aside0.mk (below_step (pw_below_drewN (Below.refl _ _) nd) hb4); clear hv4 hb4) | ((with_reducible refine gate_builtin (b := .append) (xs := #[.tmp 26, .tmp 28]) rfl ?_); at_builtin; refine Kd.R_append (Kd.int .i64) (w0 := wr) wr.heap.size rfl (.tmp 26) (.tmp 28) 24 3 (.int .i64 0) 8 rfl Try.underlying24 info3 rfl (by decide) (by omega) (.slice A4 p.length c4) p (y : Int) [.int .i64 (y : Int)] (fun _ => True) (fun _ => False) rfl rfl ?aP (fun _ hk => hk.elim) ?aF ?aO ?aB ?aS ?aL ?_; (case aP => exact rfl); (case aF => exact (fun _ _ => trivial)); (case aO => exact HV4.out); (case aB => exact HB4.out); (case aS => exact HB4.out.size); (case aL => have := HLT.out; have := HN.out; omega); intro v5 w5 ho5 hb5 hg5 hat5; rw [HNX.out] at ho5; have HB5 := Aside0.mk hb5; obtain ⟨A5, c5, e5⟩ := Kd.R_slice ho5; subst e5; have HV5 := Aside0.mk (show Kd.R (Kd.int .i64) 3 w5 wr.heap.size (fun k => ¬ Y k) (.slice A5 nx.length c5) nx from Kd.R_mono (Kd.R_bound ho5) (fun k hk => E.fresh _ _ k HI1.out hk.2.1)); have HBW := Aside0.mk (Nat.le_trans HBASE.out (Nat.le_trans HB0.out.size (HB1.out.size))); have HPS5 := Aside0.mk (Kd.C_below HPS.out ((HBB.out.trans HB1.out).trans (hb5.mono HBW.out))); clear ho5 hb5 hg5 hat5) | ((with_reducible refine gate_callee (f := 86) rfl ?_); refine goesA (some 32) Try.func86 #[.slice AP ps.length cP, .slice A5 nx.length c5] ?_; refine (Zaj.calls kk AP cP ps A5 c5 nx ed w5 HPS5.out HCP.out (Kd.R_reads' HV5.out).2.2 (Kd.R_reads' HV5.out).2.1 HKE.out).mono ?_; rintro e w6 ⟨v6, rfl, hv6, hb6⟩; refine ⟨_, rfl, ?_⟩; obtain ⟨A6, c6, e6⟩ := Kd.R_slice hv6; subst e6; have HE6 := Aside0.mk hv6; have HB6a := Aside0.mk hb6; have HV6a := Aside0.mk (Kd.R_below HV5.out hb6); clear hv6 hb6) | ((with_reducible refine gate_callee (f := 82) rfl ?_); refine goesA (some 33) Try.func82 #[.slice A6 ed.length c6] ?_; refine (Zau.calls kk A6 c6 ed true w6 (Kd.R_reads' HE6.out).2.2 (Kd.R_reads' HE6.out).2.1 HKC.out).mono ?_; rintro e w8 ⟨rfl, ⟨nu, rfl⟩⟩; refine ⟨_, rfl, ?_⟩; have HB6 := Aside0.mk (pw_below_drewN HB6a.out nu); have HV6 := Aside0.mk (Kd.R_drewN HV6a.out nu)) | (go_at_call 93; refine (IH.out s1 s2 false nx A5 c5 wr (w6.drewN nu) (by have := HLA.out; have := HLT.out; omega) HI1.out HBW.out ((HBB.out.trans HB1.out).trans ((HB5.out.trans (HB6.out.mono HB5.out.size)).mono HBW.out)) (HB5.out.trans (HB6.out.mono HB5.out.size)) HV6.out HQ.out).mono ?_; rintro e w7 ⟨rfl, hI7, hB7, hK7⟩; have HI7 := Aside0.mk hI7; have HB7 := Aside0.mk hB7; have HK7 := Aside0.mk hK7; clear hI7 hB7 hK7))
      try go_wp2
      go_roundw
      case rel => exact ⟨y + 1, s2, HY.out, by go_num, HI7, ⟨HB1.out.trans (((HB5.out.trans (HB6.out.mono HB5.out.size)).mono HBW.out).trans HB7.out)⟩, ⟨HK1.out.trans ((KeepI.of_below (HB5.out.trans (HB6.out.mono HB5.out.size))).trans HK7.out)⟩, HREST⟩
      case measure => simp [intOf]; have := HY.out; omega
def eachCount (n : Int) (_row : List Int) : Option (Int × Bool) := some (wrap64 (n + 1), false)
def Zbl.f (k : Nat) (l0 : List Int) : Option (Int × Bool) :=
 (Zae.f k l0).bind fun t => if t = true then (if l0.length ≤ 1000 then (graceF k eachCount l0 (l0.length + 1) 0 []).bind fun q => some (q.1, true) else none) else some (0, false)
theorem Zbl.mono : ∀ l0 k, LeO (Zbl.f k l0) (Zbl.f (k + 1) l0) := fun l0 k => LeO.bind (Zae.mono _ _) (fun _ => LeO.ite (LeO.ite (LeO.bind (graceF_mono _ _ _ _ _ _) (fun _ => LeO.refl _)) (LeO.refl _)) (LeO.refl _))
noncomputable def Zbl.F (l0 : List Int) : Option (Int × Bool) := (Zae.F l0).bind fun t => if t = true then (if l0.length ≤ 1000 then (graceFF eachCount l0 (l0.length + 1) 0 []).bind fun q => some (q.1, true) else none) else some (0, false)
theorem Zbl.F_lim {l0 : List Int} : Lim (fun k => Zbl.f k l0) (Zbl.F l0) := Lim.bind (Zae.F_lim l0) (fun _ => Lim.ite (Lim.ite (Lim.bind (graceF_lim _ _ _ _ _) (fun _ => Lim.const _)) (Lim.const _)) (Lim.const _))
structure CountI (base bo : Nat) (n : Int) (w : World) : Prop where
 out : w.heap[bo]? = some (.cells #[.int .i64 n] 3 (0, 0))
 bo : base ≤ bo
theorem CountGraceful1_call {base bo : Nat} (n : Int) (row : List Int) (A : Option Addr) (c : Nat) (w0 w : World) (hI0 : CountI base bo n w0) (hB0 : Below w0.heap.size w0 w) :
  Calls Try.prog 96 #[.slice A row.length c, .pointer (some ⟨bo, 0, none⟩)] w fun e w' => e = .returned (.bool false) ∧ CountI base bo (wrap64 (n + 1)) w' ∧ Below base w w' ∧ KeepI 3 (fun k => k = bo) w w' := by
 obtain ⟨h1, h4⟩ := hI0
 have HO := Aside0.mk (blk_below h1 hB0)
 have H4 := Aside0.mk h4
 have hc2 := cell_of_one HO.out
 have hf2 := free_of_one HO.out
 clear h1 h4 hB0
 go_enter Try.func96, Try.ntmps96
 go_wp2
 go_ret
 refine ⟨rfl, ⟨one_setCell HO.out, H4.out⟩, (Below.refl _ _).setCell (show base ≤ (⟨bo, 0, none⟩ : Addr).block from H4.out) _, fun k cells hk hc => ?_⟩
 exact (Below.heap_setCell w _ _ k (fun e => hk e)).trans hc
theorem CountGraceful1_ok {base bo : Nat} : EachR Try.prog 3 base (fun k => k = bo) 96 #[.pointer (some ⟨bo, 0, none⟩)] eachCount (CountI base bo) := by
 refine ⟨⟨_, Try.func96, by kernel_rfl, rfl⟩, fun s w w' h hb => ⟨blk_below h.out hb, h.bo⟩, fun s w k h hk e => ?_, fun s row A c w0 w s' b hI hb0 hB0 hR hl h => ?_⟩
 ·have := lt_of_cells h.out
  omega
 ·unfold eachCount at h
  obtain ⟨rfl, rfl⟩ := Prod.mk.inj (Option.some.inj h)
  exact CountGraceful1_call s row A c w0 w hI hB0
theorem Zbl.calls (k : Nat) (A0 : Option Addr) (c0 : Nat) (l0 : List Int) (r1 : Int) (r2 : Bool) (w : World) (hr0 : Kd.C (Kd.int .i64) w A0 l0.length l0) (hc0 : l0.length ≤ c0) (h : Zbl.f k l0 = some (r1, r2)) :
  Calls Try.prog 28 #[.slice A0 l0.length c0] w fun e w' => e = .returned (.tuple #[.int .i64 r1, .bool r2]) ∧ Below w.heap.size w w' := by
 have HR0 := Aside0.mk hr0
 have HC0 := Aside0.mk hc0
 unfold Zbl.f at h
 obtain ⟨t, ht, h⟩ := Option.bind_eq_some_iff.1 h
 have HT := Aside0.mk ht
 clear hr0 hc0 ht
 cases t with
 | false =>
  obtain ⟨rfl, rfl⟩ := Prod.mk.inj (Option.some.inj (show some ((0 : Int), false) = some (r1, r2) from h))
  clear h
  go_enter Try.func28, Try.ntmps28
  go_wp2_with (first | ((with_reducible refine gate_callee (f := 20) rfl ?_); refine goesA (some 6) Try.func20 #[.slice A0 l0.length c0] ?_; refine (Zae.calls k A0 c0 l0 false w HR0.out HC0.out HT.out).mono ?_; rintro e w1 ⟨rfl, ⟨nd, rfl⟩⟩; refine ⟨_, rfl, ?_⟩))
  go_ret2
  exact ⟨rfl, pw_below_drewN (Below.refl _ _) _⟩
 | true =>
  replace h : (if l0.length ≤ 1000 then (graceF k eachCount l0 (l0.length + 1) 0 []).bind fun q => some (q.1, true) else none) = some (r1, r2) := h
  by_cases hl : l0.length ≤ 1000
  rotate_left
  ·rw [if_neg hl] at h
   cases h
  rw [if_pos hl] at h
  obtain ⟨⟨n, b⟩, hrun, h⟩ := Option.bind_eq_some_iff.1 h
  obtain ⟨rfl, rfl⟩ := Prod.mk.inj (Option.some.inj h)
  have HRUN := Aside0.mk hrun
  have HN := Aside0.mk hl
  clear h hrun hl
  go_enter Try.func28, Try.ntmps28
  go_wp2_with (first | ((with_reducible refine gate_callee (f := 20) rfl ?_); refine goesA (some 6) Try.func20 #[.slice A0 l0.length c0] ?_; refine (Zae.calls k A0 c0 l0 true w HR0.out HC0.out HT.out).mono ?_; rintro e w1 ⟨rfl, ⟨nd, rfl⟩⟩; refine ⟨_, rfl, ?_⟩; have HC1 := Aside0.mk (Kd.C_below HR0.out (pw_below_drewN (Below.refl _ _) nd))) | ((with_reducible refine gate_dst (N := 4) rfl ?_); refine box_event ?hg (N := 4) ?hd (cs := #[.int .i64 0]) (t := 3) ?hr ?_; (case hd => rfl); (case hg => rfl); (case hr => first | (go_simp; done) | (go_simp; rfl)); intro g4 hg w2 hbox hb; have G4 := Aside0.mk (show (w.drewN nd).heap.size ≤ g4 by omega); have HI1 := Aside0.mk (show CountI (w.drewN nd).heap.size g4 0 (w2.setCell ⟨g4, 0, none⟩ (.int .i64 0)) from ⟨one_setCell hbox, by omega⟩); have HBN := Aside0.mk (show Below (w.drewN nd).heap.size (w.drewN nd) (w2.setCell ⟨g4, 0, none⟩ (.int .i64 0)) from hb.setCell (show (w.drewN nd).heap.size ≤ (⟨g4, 0, none⟩ : Addr).block from G4.out) _); have HB := Aside0.mk (show Below w.heap.size w (w2.setCell ⟨g4, 0, none⟩ (.int .i64 0)) from below_step (pw_below_drewN (Below.refl _ _) nd) HBN.out); have BK := Aside0.mk hbox; have hc2 := cell_of_one hbox; have hf2 := free_of_one hbox; clear hb hbox hg) | ((with_reducible refine gate_callee (f := 93) rfl ?_); refine goesA (some 10) Try.func93 #[.slice A0 l0.length c0, .slice none 0 0, .func (.func 96) #[] #[.pointer (some ⟨g4, 0, none⟩)]] ?_; refine (graceful_calls k (wb := w.drewN nd) (CountGraceful1_ok (base := (w.drewN nd).heap.size) (bo := g4)) l0 A0 c0 HN.out HC1.out HC0.out (l0.length + 1) 0 n b [] none 0 _ _ (Nat.zero_le _) HI1.out HBN.out.size HBN.out (Below.refl _ _) (Kd.R_nil _ _ _ _ _) HRUN.out).mono ?_; rintro e w3 ⟨rfl, hI3, hB3, hK3⟩; refine ⟨_, rfl, ?_⟩; have HB3 := Aside0.mk hB3; have hc3 := cell_of_one hI3.out; clear hI3 hB3 hK3 hc2 hf2))
  go_ret2
  exact ⟨rfl, HB.out.trans (HB3.out)⟩
def eachOnceG (_xs : List Int) (row : List Int) : Option (List Int × Bool) := some (row, true)
def Zbk.f (k : Nat) (l0 : List Int) : Option (List Int × Bool) :=
 (Zae.f k l0).bind fun t => if t = true then (if l0.length ≤ 1000 then (graceF k eachOnceG l0 (l0.length + 1) [] []).bind fun q => some (q.1, decide ((0 : Int) < (q.1.length : Int))) else none) else some ([], false)
theorem Zbk.mono : ∀ l0 k, LeO (Zbk.f k l0) (Zbk.f (k + 1) l0) := fun l0 k => LeO.bind (Zae.mono _ _) (fun _ => LeO.ite (LeO.ite (LeO.bind (graceF_mono _ _ _ _ _ _) (fun _ => LeO.refl _)) (LeO.refl _)) (LeO.refl _))
noncomputable def Zbk.F (l0 : List Int) : Option (List Int × Bool) :=
 (Zae.F l0).bind fun t => if t = true then (if l0.length ≤ 1000 then (graceFF eachOnceG l0 (l0.length + 1) [] []).bind fun q => some (q.1, decide ((0 : Int) < (q.1.length : Int))) else none) else some ([], false)
theorem Zbk.F_lim {l0 : List Int} : Lim (fun k => Zbk.f k l0) (Zbk.F l0) := Lim.bind (Zae.F_lim l0) (fun _ => Lim.ite (Lim.ite (Lim.bind (graceF_lim _ _ _ _ _) (fun _ => Lim.const _)) (Lim.const _)) (Lim.const _))
structure OnceG (base bo : Nat) (xs : List Int) (w : World) : Prop where
 out : ∃ v, w.heap[bo]? = some (.cells #[v] 24 (0, 0)) ∧ Kd.R (Kd.int .i64) 3 w base (fun _ => True) v xs
 bo : base ≤ bo
theorem FirstGraceful1_call {base bo : Nat} (xs row : List Int) (A : Option Addr) (c : Nat) (w0 w : World) (hI0 : OnceG base bo xs w0) (hb0 : base ≤ w0.heap.size) (hB0 : Below w0.heap.size w0 w) (hR : Kd.R (Kd.int .i64) 3 w w0.heap.size (fun k => ¬ False) (.slice A row.length c) row) :
  Calls Try.prog 94 #[.slice A row.length c, .pointer (some ⟨bo, 0, none⟩)] w fun e w' => e = .returned (.bool true) ∧ OnceG base bo row w' ∧ Below base w w' ∧ KeepI 3 (fun _ => False) w w' := by
 obtain ⟨⟨v, h1, h2⟩, h4⟩ := hI0
 have HO := Aside0.mk (blk_below h1 hB0)
 have H4 := Aside0.mk h4
 have HB := Aside0.mk hb0
 have HR := Aside0.mk hR
 have hc2 := cell_of_one HO.out
 have hf2 := free_of_one HO.out
 clear h1 h2 h4 hb0 hB0 hR
 go_enter Try.func94, Try.ntmps94
 go_wp2
 go_ret
 refine ⟨rfl, ⟨⟨_, one_setCell HO.out, ?_⟩, H4.out⟩, (Below.refl _ _).setCell (show base ≤ (⟨bo, 0, none⟩ : Addr).block from H4.out) _, fun k cells hk hc => ?_⟩
 ·exact Kd.R_set (Kd.R_mono (Kd.R_lower HR.out HB.out) (fun _ _ => trivial)) HO.out (by decide) 0 _
 ·refine (Below.heap_setCell w _ _ k (fun e => ?_)).trans hc
  have h2 := HO.out
  rw [show k = bo from e] at hc
  rw [hc] at h2
  simp at h2
theorem FirstGraceful1_ok {base bo : Nat} : EachR Try.prog 3 base (fun _ => False) 94 #[.pointer (some ⟨bo, 0, none⟩)] eachOnceG (OnceG base bo) := by
 refine ⟨⟨_, Try.func94, by kernel_rfl, rfl⟩, fun s w w' h hb => ?_, fun _ _ _ _ _ => id, fun s row A c w0 w s' b hI hb0 hB0 hR hl h => ?_⟩
 ·obtain ⟨⟨v, h1, h2⟩, h4⟩ := h
  exact ⟨⟨v, blk_below h1 hb, Kd.R_below h2 hb⟩, h4⟩
 ·unfold eachOnceG at h
  obtain ⟨rfl, rfl⟩ := Prod.mk.inj (Option.some.inj h)
  exact FirstGraceful1_call s row A c w0 w hI hb0 hB0 hR
theorem Zbk.calls (k : Nat) (A0 : Option Addr) (c0 : Nat) (l0 : List Int) (r1 : List Int) (r2 : Bool) (w : World) (hr0 : Kd.C (Kd.int .i64) w A0 l0.length l0) (hc0 : l0.length ≤ c0) (h : Zbk.f k l0 = some (r1, r2)) :
  Calls Try.prog 26 #[.slice A0 l0.length c0] w fun e w' => ∃ v0_ : Value, e = .returned (.tuple #[v0_, .bool r2]) ∧ Kd.R (Kd.int .i64) 3 w' w.heap.size (fun _ => True) v0_ r1 ∧ Below w.heap.size w w' := by
 have HR0 := Aside0.mk hr0
 have HC0 := Aside0.mk hc0
 unfold Zbk.f at h
 obtain ⟨t, ht, h⟩ := Option.bind_eq_some_iff.1 h
 have HT := Aside0.mk ht
 clear hr0 hc0 ht
 cases t with
 | false =>
  obtain ⟨rfl, rfl⟩ := Prod.mk.inj (Option.some.inj (show some (([] : List Int), false) = some (r1, r2) from h))
  clear h
  go_enter Try.func26, Try.ntmps26
  go_wp2_with (first | ((with_reducible refine gate_callee (f := 20) rfl ?_); refine goesA (some 6) Try.func20 #[.slice A0 l0.length c0] ?_; refine (Zae.calls k A0 c0 l0 false w HR0.out HC0.out HT.out).mono ?_; rintro e w1 ⟨rfl, ⟨nd, rfl⟩⟩; refine ⟨_, rfl, ?_⟩))
  go_ret2
  exact ⟨_, rfl, Kd.R_nil _ _ _ _ _, pw_below_drewN (Below.refl _ _) _⟩
 | true =>
  replace h : (if l0.length ≤ 1000 then (graceF k eachOnceG l0 (l0.length + 1) [] []).bind fun q => some (q.1, decide ((0 : Int) < (q.1.length : Int))) else none) = some (r1, r2) := h
  by_cases hl : l0.length ≤ 1000
  rotate_left
  ·rw [if_neg hl] at h
   cases h
  rw [if_pos hl] at h
  obtain ⟨⟨xs, b⟩, hrun, h⟩ := Option.bind_eq_some_iff.1 h
  obtain ⟨rfl, rfl⟩ := Prod.mk.inj (Option.some.inj h)
  have HRUN := Aside0.mk hrun
  have HN := Aside0.mk hl
  clear h hrun hl
  go_enter Try.func26, Try.ntmps26
  go_wp2_with (first | ((with_reducible refine gate_callee (f := 20) rfl ?_); refine goesA (some 6) Try.func20 #[.slice A0 l0.length c0] ?_; refine (Zae.calls k A0 c0 l0 true w HR0.out HC0.out HT.out).mono ?_; rintro e w1 ⟨rfl, ⟨nd, rfl⟩⟩; refine ⟨_, rfl, ?_⟩; have HC1 := Aside0.mk (Kd.C_below HR0.out (pw_below_drewN (Below.refl _ _) nd))) | ((with_reducible refine gate_dst (N := 4) rfl ?_); refine box_event ?hg (N := 4) ?hd (cs := #[.slice none 0 0]) (t := 24) ?hr ?_; (case hd => rfl); (case hg => rfl); (case hr => first | (go_simp; done) | (go_simp; rfl)); intro g4 hg w2 hbox hb; have HB := Aside0.mk (show Below w.heap.size w w2 from below_step (pw_below_drewN (Below.refl _ _) nd) hb); have HBN := Aside0.mk hb; have G4 := Aside0.mk (show (w.drewN nd).heap.size ≤ g4 by omega); have HI1 := Aside0.mk (show OnceG (w.drewN nd).heap.size g4 [] w2 from ⟨⟨_, hbox, Kd.R_nil _ _ _ _ _⟩, by omega⟩); clear hb hbox hg) | ((with_reducible refine gate_callee (f := 93) rfl ?_); refine goesA (some 10) Try.func93 #[.slice A0 l0.length c0, .slice none 0 0, .func (.func 94) #[] #[.pointer (some ⟨g4, 0, none⟩)]] ?_; refine (graceful_calls k (wb := w.drewN nd) (FirstGraceful1_ok (base := (w.drewN nd).heap.size) (bo := g4)) l0 A0 c0 HN.out HC1.out HC0.out (l0.length + 1) [] xs b [] none 0 _ _ (Nat.zero_le _) HI1.out HBN.out.size HBN.out (Below.refl _ _) (Kd.R_nil _ _ _ _ _) HRUN.out).mono ?_; rintro e w3 ⟨rfl, hI3, hB3, hK3⟩; refine ⟨_, rfl, ?_⟩; obtain ⟨v3, ho3, hs3⟩ := hI3.out; obtain ⟨A3, c3, e3⟩ := Kd.R_slice hs3; subst e3; have HS3 := Aside0.mk hs3; have HB3 := Aside0.mk hB3; have hc3 := cell_of_one ho3; clear hI3 hB3 hK3 ho3 hs3))
  go_quiet (fail)
  go_wp2_with fail
  go_ret2
  exact ⟨_, by first | rfl | simp, Kd.R_mono (Kd.R_lower (Kd.R_drewN HS3.out _) (pw_below_drewN (Below.refl w.heap.size w) nd).size) (fun _ _ => trivial), HB.out.trans (HB3.out.trans (pw_below_drewN (Below.refl _ _) _))⟩
def Zbr.f (l0 : List Int) : Option (Int × List Int) := if l0.length ≤ 50 then grF l0 (l0.length + 1) [] 0 0 (0, []) else none
theorem Zbr.calls (A0 : Option Addr) (c0 : Nat) (l0 : List Int) (r1 : Int) (r2 : List Int) (w : World) (hr0 : Kd.C (Kd.int .i64) w A0 l0.length l0) (hc0 : l0.length ≤ c0) (h : Zbr.f l0 = some (r1, r2)) :
  Calls Try.prog 95 #[.slice A0 l0.length c0] w fun e w' => ∃ v0_ : Value, e = .returned (.tuple #[.int .i64 r1, v0_]) ∧ Kd.R (Kd.int .i64) 3 w' w.heap.size (fun _ => True) v0_ r2 ∧ Below w.heap.size w w' := by
 have HR0 := Aside0.mk hr0
 have HC0 := Aside0.mk hc0
 unfold Zbr.f at h
 split at h
 case isFalse => cases h
 rename_i hl
 have HL := Aside0.mk hl
 have HRUN := Aside0.mk h
 clear hr0 hc0 h hl
 go_enter Try.func95, Try.ntmps95
 go_wp2_with (first | ((with_reducible refine gate_dst (N := 4) rfl ?_); refine box_event ?hg (N := 4) ?hd (cs := #[.int .i64 0]) (t := 3) ?hr ?_; (case hd => rfl); (case hg => rfl); (case hr => first | (go_simp; done) | (go_simp; rfl)); intro g4 hg w1 hbox hb; have G4 := Aside0.mk (show w.heap.size ≤ g4 by omega); have C1 := Aside0.mk (show (w1.setCell ⟨g4, 0, none⟩ (.int .i64 0)).heap[g4]? = some (.cells #[.int .i64 0] 3 (0, 0)) from one_setCell hbox); have B1 := Aside0.mk (show Below w.heap.size w (w1.setCell ⟨g4, 0, none⟩ (.int .i64 0)) from hb.setCell (show w.heap.size ≤ (⟨g4, 0, none⟩ : Addr).block from G4.out) _); have hc2 := cell_of_one hbox; have hf2 := free_of_one hbox; clear hb hbox hg) | ((with_reducible refine gate_dst (N := 5) rfl ?_); refine box_event ?hg (N := 5) ?hd (cs := #[.slice none 0 0]) (t := 24) ?hr ?_; (case hd => rfl); (case hg => rfl); (case hr => first | (go_simp; done) | (go_simp; rfl)); intro g5 hg5 w2 hbox2 hb2; have G5 := Aside0.mk (show w.heap.size ≤ g5 by have := B1.out.size; omega); have HI := Aside0.mk (show GrI w.heap.size g4 g5 (0, []) w2 from ⟨blk_below C1.out hb2, _, hbox2, Kd.R_nil _ _ _ _ _⟩); have B2 := Aside0.mk (B1.out.trans (hb2.mono B1.out.size)); clear hc2 hf2 hg5 hbox2 hb2) | ((with_reducible refine gate_callee (f := 138) rfl ?_); refine goesA (some 7) Try.func138 #[.slice A0 l0.length c0, .slice none 0 0, .int .i64 0, .int .i64 0, .pointer (some ⟨g4, 0, none⟩), .pointer (some ⟨g5, 0, none⟩)] ?_; refine (grLook_call (wb := w) G4.out G5.out l0 A0 c0 HL.out HR0.out HC0.out (l0.length + 1) (0, []) (r1, r2) [] 0 0 none 0 w2 (Nat.zero_le _) (fun x hx => by cases hx) (by decide) (by decide) HI.out B2.out (Kd.R_nil _ _ _ _ _) HRUN.out).mono ?_; rintro e w3 ⟨rfl, hI3, hB3, _⟩; refine ⟨_, rfl, ?_⟩; obtain ⟨h31, v3, ho3, hs3⟩ := hI3; obtain ⟨A3, c3, e3⟩ := Kd.R_slice hs3; subst e3; have HS3 := Aside0.mk hs3; have HB3 := Aside0.mk hB3; have hc3 := cell_of_one ho3; have hc4 := cell_of_one h31; clear hB3 ho3 hs3 h31))
 go_quiet (fail)
 go_wp2_with fail
 go_ret2
 exact ⟨_, by first | rfl | simp, Kd.R_mono (Kd.R_drewN HS3.out _) (fun _ _ => trivial), B2.out.trans (HB3.out.trans (pw_below_drewN (Below.refl _ _) _))⟩
mutual
def Zab.j0 : Nat → List Int → Bool → Option (List Int × Bool)
 | 0, _, _ => none
 | k + 1, x0, x17 => if x17 = true then (some (([] : List Int), false)) else (Zab.l0 k x0 ([] : List Int) x0 (x0.length : Int) 0)
def Zab.l0 : Nat → List Int → List Int → List Int → Int → Int → Option (List Int × Bool)
 | 0, _, _, _, _, _ => none
 | k + 1, x0, x4, x18, x19, x20 => if x20 < x19 then (if 0 ≤ x20 then (if x20 < (x18.length : Int) then (if x4.length < 17592186044416 then (Zab.l0 k x0 (x4 ++ [wrap64 ((wrap64 ((x0.length : Int) - 1)) - (rd x18 x20))]) x18 x19 (wrap64 (x20 + 1))) else (none)) else (none)) else (none)) else (some (x4, true))
end
def Zab.f (k : Nat) (l0 : List Int) : Option (List Int × Bool) := (Zbw.f (l0.length : Int)).bind fun t306 => (if t306 = true then ((Zam.f k (l0.length : Int) l0).bind fun t307 => (Zab.j0 k l0 (!t307))) else (Zab.j0 k l0 true))
theorem Zab.mono_l : ∀ k, (∀ y0 y1, LeO (Zab.j0 k y0 y1) (Zab.j0 (k + 1) y0 y1)) ∧ (∀ y0 y1 y2 y3 y4, LeO (Zab.l0 k y0 y1 y2 y3 y4) (Zab.l0 (k + 1) y0 y1 y2 y3 y4))
 | 0 => ⟨fun _ _ r h => by simp [Zab.j0] at h, fun _ _ _ _ _ r h => by simp [Zab.l0] at h⟩
 | k + 1 => by
  obtain ⟨ih0, ih1⟩ := Zab.mono_l k
  refine ⟨?_, ?_⟩
  ·intro y0 y1
   unfold Zab.j0
   repeat' (first | (with_reducible first | exact ih1 _ _ _ _ _ | exact LeO.refl _ | exact LeO.none _ | refine LeO.ite ?_ ?_ | refine LeO.bind ?_ (fun _ => ?_)) | exact ih1 _ _ _ _ _ | exact LeO.none _ | refine LeO.ite ?_ ?_ | refine LeO.bind ?_ (fun _ => ?_))
  ·intro y0 y1 y2 y3 y4
   unfold Zab.l0
   repeat' (first | (with_reducible first | exact ih1 _ _ _ _ _ | exact LeO.refl _ | exact LeO.none _ | refine LeO.ite ?_ ?_ | refine LeO.bind ?_ (fun _ => ?_)) | exact ih1 _ _ _ _ _ | exact LeO.none _ | refine LeO.ite ?_ ?_ | refine LeO.bind ?_ (fun _ => ?_))
theorem Zab.mono : ∀ a0 k, LeO (Zab.f k a0) (Zab.f (k + 1) a0) := by
 intro a0 k
 obtain ⟨ih0, ih1⟩ := Zab.mono_l k
 unfold Zab.f
 repeat' (first | (with_reducible first | exact ih0 _ _ | exact Zam.mono _ _ _ | exact LeO.refl _ | exact LeO.none _ | refine LeO.ite ?_ ?_ | refine LeO.bind ?_ (fun _ => ?_)) | exact ih0 _ _ | exact Zam.mono _ _ _ | exact LeO.none _ | refine LeO.ite ?_ ?_ | refine LeO.bind ?_ (fun _ => ?_))
theorem Zab.calls (k : Nat) (A0 : Option Addr) (c0 : Nat) (l0 : List Int) (r1 : List Int) (r2 : Bool) (w : World) (hr0 : Kd.C (Kd.int .i64) w A0 l0.length l0) (hc0 : l0.length ≤ c0) (h : Zab.f k l0 = some (r1, r2)) :
  Calls Try.prog 22 #[.slice A0 l0.length c0] w fun e w' => ∃ v0_ : Value, e = .returned (.tuple #[v0_, .bool r2]) ∧ Kd.R (Kd.int .i64) 3 w' w.heap.size (fun _ => True) v0_ r1 ∧ Below w.heap.size w w' := by
 have HR0 := Aside0.mk hr0
 have HC0 := Aside0.mk hc0
 clear hr0 hc0
 have HB := Aside0.mk (Below.refl w.heap.size w)
 have H := h
 unfold Zab.f at H
 clear h
 have HC2 := Aside0.mk H
 clear H
 go_enter Try.func22, Try.ntmps22
 go_upto_region 1 with (fail)
 go_cut [17] (fun v17 wc => ∃ (kq : Nat) (x17_1 : Bool), v17 = .bool x17_1 ∧ Aside0 (Zab.j0 kq l0 x17_1 = some (r1, r2)) ∧ Aside0 (kq ≤ k) ∧ Aside0 (Below w.heap.size w wc))
 case first =>
  have H := HC2.out
  clear HC2
  replace H := bs_ H
  obtain ⟨t306, A3, H⟩ := H
  (try dsimp only at H)
  by_cases c4 : t306 = true
  rotate_left
  ·replace c4 := Bool.eq_false_iff.mpr c4
   subst c4
   replace H := if_ H
   have H' := Aside0.mk H
   clear H
   go_wp2_with (first | ((with_reducible refine gate_callee (f := 90) rfl ?_); refine goesA (some 9) Try.func90 #[.int .i64 (l0.length : Int)] ?_; (with_reducible refine (Zbw.calls (l0.length : Int) false _ A3.out).mono ?_); rintro e w' ⟨rfl, ⟨nd, rfl⟩⟩; refine ⟨_, rfl, ?_⟩))
   go_meet
   case rel => exact ⟨_, (true), eqd, H', ⟨leD⟩, ⟨atB HB⟩⟩
  subst c4
  replace H := it_ H
  replace H := bs_ H
  obtain ⟨t307, A5, H⟩ := H
  (try dsimp only at H)
  have H' := Aside0.mk H
  clear H
  go_wp2_with (first | ((with_reducible refine gate_callee (f := 90) rfl ?_); refine goesA (some 9) Try.func90 #[.int .i64 (l0.length : Int)] ?_; (with_reducible refine (Zbw.calls (l0.length : Int) true _ A3.out).mono ?_); rintro e w' ⟨rfl, ⟨nd, rfl⟩⟩; refine ⟨_, rfl, ?_⟩) | (go_at_call 85; (with_reducible refine (Zam.calls k (l0.length : Int) _ _ l0 t307 _ ?side1 ?side2 A5.out).mono ?_); (case side1 => repeat (first | exact (Kd.C_below HR0.out (atB HB)) | (with_reducible refine Kd.C_alloc ?_ _) | (with_reducible refine Kd.C_drewN ?_ _) | (with_reducible refine Kd.C_drew ?_))); (case side2 => exact HC0.out); rintro e w' ⟨rfl, ⟨nd, rfl⟩⟩))
  go_meet
  case rel => exact ⟨_, (!t307), eqd, H', ⟨leD⟩, ⟨atB HB⟩⟩
 case rest =>
  clear HC2
  obtain ⟨kq, x17_1, rfl, HA, HJ1, HB⟩ := hcut
  cases kq with
  | zero => exact absurd HA.out (by simp [Zab.j0])
  | succ kj1 =>
   have H := HA.out
   clear HA
   simp only [Zab.j0] at H
   by_cases c6 : x17_1 = true
   ·subst c6
    replace H := it_ H
    simp only [Option.some.injEq, Prod.mk.injEq] at H
    obtain ⟨rfl, rfl⟩ := H
    go_wp2
    go_ret2
    exact ⟨_, eqr, by first | exact Kd.R_nil _ _ _ _ _ | exact Kd.N_nil _ _ _ _ _ | exact Kd.V_nil _ _ _ _ _ | exact Kd.Q_nil _ _ _ _ _ | exact Kd.S_nil _ _ _ _ _, atB HB⟩
   replace c6 := Bool.eq_false_iff.mpr c6
   subst c6
   replace H := if_ H
   have H' := Aside0.mk H
   clear H
   go_wp2
   go_loopg [4, 20] kj1 (fun kq v4 v20 w' => ∃ (x4_2 : List Int) (x20_2 : Int), v20 = .int .i64 x20_2 ∧ Aside0 (Zab.l0 kq l0 x4_2 l0 (l0.length : Int) x20_2 = some (r1, r2)) ∧ Aside0 (kq ≤ kj1) ∧ Aside0 (Kd.R (Kd.int .i64) 3 w' w.heap.size (fun _ => True) v4 x4_2) ∧ Aside0 (Below w.heap.size w w'))
   case atStart => exact ⟨(([] : List Int)), (0), eqd, H', ⟨Nat.le_refl _⟩, ⟨by first | exact Kd.R_nil _ _ _ _ _ | exact Kd.N_nil _ _ _ _ _ | exact Kd.V_nil _ _ _ _ _ | exact Kd.Q_nil _ _ _ _ _ | exact Kd.S_nil _ _ _ _ _⟩, ⟨atB HB⟩⟩
   case round =>
    clear H'
    try clear c6
    obtain ⟨x4_2, x20_2, rfl, HA, HK2, HO_4, HB⟩ := hrel
    cases gk with
    | zero => exact absurd HA.out (by simp [Zab.l0])
    | succ k2 =>
     have H := HA.out
     clear HA
     simp only [Zab.l0] at H
     by_cases c7 : x20_2 < (l0.length : Int)
     rotate_left
     ·rw [if_neg c7] at H
      have c7b0 := decide_eq_false c7
      clear c7
      simp only [Option.some.injEq, Prod.mk.injEq] at H
      obtain ⟨rfl, rfl⟩ := H
      go_wp2
      go_ret2
      exact ⟨_, eqr, atR HO_4, atB HB⟩
     rw [if_pos c7] at H
     have c7b0 := decide_eq_true c7
     clear c7
     obtain ⟨c8b0, H⟩ := in_ H
     obtain ⟨c9b0, H⟩ := in_ H
     obtain ⟨c10, H⟩ := in0_ H
     have LMc10 := Aside0.mk c10
     clear c10
     obtain ⟨y309, hy309⟩ : ∃ y_ : List Int, y_ = (x4_2 ++ [wrap64 ((wrap64 ((l0.length : Int) - 1)) - (rd l0 x20_2))]) := ⟨_, rfl⟩
     replace H : (Zab.l0 k2 l0 y309 l0 (l0.length : Int) (wrap64 (x20_2 + 1))) = some (r1, r2) := by first | (rw [hy309]; with_reducible exact H) | (have H2_ := (Option.bind_some _ _).symm.trans H; rw [hy309]; with_reducible exact H2_) | (have H2_ := (Option.bind_some _ _).symm.trans H; with_reducible exact H2_) | with_reducible exact H | (rw [hy309]; exact H) | exact H
     have Ny309 := Aside0.mk hy309
     clear hy309
     have H' := Aside0.mk H
     clear H
     have p308 : 0 ≤ (x20_2 : Int) := ofd
     have q308 : x20_2 < (l0.length : Int) := ofd
     obtain ⟨ad308, e308, hx308_0⟩ := Kd.at_int HR0.out x20_2 p308 q308
     cases e308
     (try replace hx308_0 := (HB.out.cell (World.block_lt_of_cell? w _ hx308_0)).trans hx308_0)
     replace p308 := eq_true p308
     replace q308 := eq_true q308
     go_wp2_with (first | ((with_reducible refine gate_builtin (b := .append) (xs := #[.tmp 24, .tmp 30]) rfl ?_); (try (refine gate_guard (by rfl) ?_; dsimp only)); at_builtin; refine Kd.R_append (Kd.int .i64) (w0 := w) w.heap.size rfl (.tmp 24) (.tmp 30) 24 3 (.int .i64 0) 8 rfl Try.underlying24 info3 rfl (by decide) (by omega) u4 x4_2 (wrap64 ((wrap64 ((l0.length : Int) - 1)) - (rd l0 x20_2))) [.int .i64 (wrap64 ((wrap64 ((l0.length : Int) - 1)) - (rd l0 x20_2)))] (fun _ => True) (fun _ => False) rfl rfl ?aP (fun _ hk => hk.elim) ?aF ?aO ?aB ?aS ?aL ?_; (case aP => exact rfl); (case aB => exact (atB HB)); (case aF => exact (fun _ _ => trivial)); (case aO => exact (atR HO_4)); (case aS => exact (szB HB)); (case aL => have := LMc10.out; omega); intro v310 w11 ho hb hg hat; rw [← Ny309.out] at ho; have HO311 := Aside0.mk (ho); replace HB := Aside0.mk (hb); clear HO_4; clear ho hb hg hat))
     go_roundg k2
     case measure => have := HJ1.out; have := HK2.out; omega
     case rel => exact ⟨(y309), (wrap64 (x20_2 + 1)), eqd, H', ⟨by have := HJ1.out; have := HK2.out; omega⟩, ⟨atR HO311⟩, ⟨atB HB⟩⟩
noncomputable def Zab.J0 (x0 : List Int) (x17 : Bool) : Option (List Int × Bool) := lim fun k => Zab.j0 k x0 x17
theorem Zab.J0_lim (x0 : List Int) (x17 : Bool) : Lim (fun k => Zab.j0 k x0 x17) (Zab.J0 x0 x17) := Lim.of fun k => (Zab.mono_l k).1 x0 x17
noncomputable def Zab.L0 (x0 : List Int) (x4 : List Int) (x18 : List Int) (x19 : Int) (x20 : Int) : Option (List Int × Bool) := lim fun k => Zab.l0 k x0 x4 x18 x19 x20
theorem Zab.L0_lim (x0 : List Int) (x4 : List Int) (x18 : List Int) (x19 : Int) (x20 : Int) : Lim (fun k => Zab.l0 k x0 x4 x18 x19 x20) (Zab.L0 x0 x4 x18 x19 x20) := Lim.of fun k => (Zab.mono_l k).2 x0 x4 x18 x19 x20
noncomputable def Zab.F (l0 : List Int) : Option (List Int × Bool) := lim fun k => Zab.f k l0
theorem Zab.F_lim (l0 : List Int) : Lim (fun k => Zab.f k l0) (Zab.F l0) := Lim.of fun k => Zab.mono l0 k
theorem Zab.J0_eq (x0 : List Int) (x17 : Bool) : Zab.J0 x0 x17 = (if x17 = true then (some (([] : List Int), false)) else (Zab.L0 x0 ([] : List Int) x0 (x0.length : Int) 0)) :=
 Lim.step (f := fun k => Zab.j0 (k + 1) x0 x17) (Zab.J0_lim x0 x17) (fun _ => rfl) (by
  simp only [Zab.j0]
  repeat' (first | (with_reducible first | exact Lim.const _ | exact Zab.L0_lim _ _ _ _ _ | refine Lim.ite ?_ ?_ | refine Lim.bind ?_ (fun _ => ?_))))
theorem Zab.L0_eq (x0 : List Int) (x4 : List Int) (x18 : List Int) (x19 : Int) (x20 : Int) : Zab.L0 x0 x4 x18 x19 x20 = (if x20 < x19 then (if 0 ≤ x20 then (if x20 < (x18.length : Int) then (if x4.length < 17592186044416 then (Zab.L0 x0 (x4 ++ [wrap64 ((wrap64 ((x0.length : Int) - 1)) - (rd x18 x20))]) x18 x19 (wrap64 (x20 + 1))) else (none)) else (none)) else (none)) else (some (x4, true))) :=
 Lim.step (f := fun k => Zab.l0 (k + 1) x0 x4 x18 x19 x20) (Zab.L0_lim x0 x4 x18 x19 x20) (fun _ => rfl) (by
  simp only [Zab.l0]
  repeat' (first | (with_reducible first | exact Lim.const _ | exact Zab.L0_lim _ _ _ _ _ | refine Lim.ite ?_ ?_ | refine Lim.bind ?_ (fun _ => ?_))))
theorem Zab.F_eq (l0 : List Int) : Zab.F l0 = ((Zbw.f (l0.length : Int)).bind fun t306 => (if t306 = true then ((Zam.F (l0.length : Int) l0).bind fun t307 => (Zab.J0 l0 (!t307))) else (Zab.J0 l0 true))) :=
 Lim.unique (Zab.F_lim l0) (by
  unfold Zab.f
  repeat' (first | (with_reducible first | exact Lim.const _ | exact Zab.J0_lim _ _ | exact Zam.F_lim _ _ | refine Lim.ite ?_ ?_ | refine Lim.bind ?_ (fun _ => ?_))))
def Zby.f (l0 : List Int) (l1 : List Int) : Option (Bool) := if (l0.length : Int) > 1048576 then (some true) else (some (decide ((l1.length : Int) > (wrap64 (1048576 - (l0.length : Int))))))
theorem Zby.calls (A0 : Option Addr) (c0 : Nat) (l0 : List Int) (A1 : Option Addr) (c1 : Nat) (l1 : List Int) (r : Bool) (w : World) (hr0 : Kd.C (Kd.int .u8) w A0 l0.length l0) (hc0 : l0.length ≤ c0) (hr1 : Kd.C (Kd.int .u8) w A1 l1.length l1) (hc1 : l1.length ≤ c1) (h : Zby.f l0 l1 = some r) :
  Calls Try.prog 6 #[.slice A0 l0.length c0, .slice A1 l1.length c1] w fun e w' => e = .returned (.bool r) ∧ Drawn0 w w' := by
 have HR0 := Aside0.mk hr0
 have HC0 := Aside0.mk hc0
 clear hr0 hc0
 have HR1 := Aside0.mk hr1
 have HC1 := Aside0.mk hc1
 clear hr1 hc1
 have H := h
 unfold Zby.f at H
 clear h
 by_cases c3 : (l0.length : Int) > 1048576
 rotate_left
 ·rw [if_neg c3] at H
  have c3b0 := decide_eq_false c3
  have c3b1 : decide (1048576 < l0.length) = false := decide_eq_false (by omega)
  clear c3
  obtain rfl := Option.some.inj H
  go_enter Try.func6, Try.ntmps6
  go_wp2
  go_ret
  exact ⟨by first | rfl | (simp; done) | (simp [*]; done), by repeat (first | exact Drawn0.refl _ | apply Drawn0.step)⟩
 rw [if_pos c3] at H
 have c3b0 := decide_eq_true c3
 have c3b1 : decide (1048576 < l0.length) = true := decide_eq_true (by omega)
 clear c3
 obtain rfl := Option.some.inj H
 go_enter Try.func6, Try.ntmps6
 go_wp2
 go_ret
 exact ⟨by first | rfl | (simp; done) | (simp [*]; done), by repeat (first | exact Drawn0.refl _ | apply Drawn0.step)⟩
def Zbp.f (s0_0 : List Int) (s0_1 : Int) (s0_2 : Int) (l1 : List Int) : Option (Int × Int × Int) := (Zax.f s0_0 s0_1 s0_2 (l1.length : Int)).bind fun bt115 => (if 0 ≤ bt115.1 then (if bt115.1 < (l1.length : Int) then (some (rd l1 bt115.1, bt115.2.1, bt115.2.2)) else (none)) else (none))
theorem Zbp.calls (g : Nat) (s0_0 : List Int) (s0_1 : Int) (s0_2 : Int) (A1 : Option Addr) (c1 : Nat) (l1 : List Int) (r1 : Int) (r2 : Int) (r3 : Int) (w0 w : World) (hI : IsS68 w0 w g s0_0 s0_1 s0_2) (hB : Below w0.heap.size w0 w) (hr1 : Kd.C (Kd.int .i64) w A1 l1.length l1) (hc1 : l1.length ≤ c1) (hf1 : ∀ ad, A1 = some ad → 0 < l1.length → ad.block ≠ g) (h : Zbp.f s0_0 s0_1 s0_2 l1 = some (r1, r2, r3)) :
  Calls Try.prog 109 #[.pointer (some ⟨g, 0, none⟩), .slice A1 l1.length c1] w fun e w' => e = .returned (.int .i64 r1) ∧ IsS68 w0 w' g s0_0 r2 r3 ∧ Below w0.heap.size w0 w' ∧ KeepBut w w' g none := by
 have HR1 := Aside0.mk hr1
 have HC1 := Aside0.mk hc1
 clear hr1 hc1
 have HI0 := Aside0.mk hI
 have HK := Aside0.mk (KeepBut.refl w g none)
 have HL := Aside0.mk hB.size
 clear hI
 have HW0 := Aside0.mk hB.size
 have HB := Aside0.mk hB
 clear hB
 have H := h
 unfold Zbp.f at H
 clear h
 replace H := Option.bind_eq_some_iff.mp H
 obtain ⟨⟨t115, t116, t117⟩, A30, H⟩ := H
 replace H : (if 0 ≤ t115 then (if t115 < (l1.length : Int) then (some (rd l1 t115, t116, t117)) else (none)) else (none)) = some (r1, r2, r3) := H
 have A3 := Aside0.mk A30
 clear A30
 obtain ⟨c4b0, H⟩ := in_ H
 obtain ⟨c5b0, H⟩ := in_ H
 simp only [Option.some.injEq, Prod.mk.injEq] at H
 obtain ⟨rfl, rfl, rfl⟩ := H
 go_enter Try.func109, Try.ntmps109
 go_wp2_with (first | ((with_reducible refine gate_callee (f := 97) rfl ?_); refine goesA (some 9) Try.func97 #[.pointer (some ⟨g, 0, none⟩), .int .i64 (l1.length : Int)] ?_; (with_reducible refine (Zax.calls g s0_0 s0_1 s0_2 (l1.length : Int) t115 t116 t117 w0 _ ?side1 ?side2 A3.out).mono ?_); (case side1 => exact IsS68.at HI0); (case side2 => exact atB HB); rintro e w6 ⟨rfl, hi, hb, hk⟩; refine ⟨_, rfl, ?_⟩; replace HK := upK HK hk; replace HB := Aside0.mk (hb); replace HI0 := Aside0.mk (hi); have p118 : 0 ≤ (t115 : Int) := ofd; have q118 : t115 < (l1.length : Int) := ofd; obtain ⟨ad118, e118, hx118_0⟩ := Kd.at_int HR1.out t115 p118 q118; cases e118; replace hx118_0 := keep_cell HK.out hx118_0 (by first | (rw [add_block]; exact hf1 _ rfl (by omega)) | exact hf1 _ rfl (by omega) | exact hf1 ad118 rfl (by omega)); replace p118 := eq_true p118; replace q118 := eq_true q118))
 go_ret
 exact ⟨eqr, IsS68.at HI0, atB HB, atK HK⟩
def Zbd.f (s0_0 : List Int) (s0_1 : Int) (s0_2 : Int) (a1 : Int) : Option (Bool × Int × Int) := (Zax.f s0_0 s0_1 s0_2 a1).bind fun bt112 => (some ((bt112.1 == 0), bt112.2.1, bt112.2.2))
theorem Zbd.calls (g : Nat) (s0_0 : List Int) (s0_1 : Int) (s0_2 : Int) (a1 : Int) (r1 : Bool) (r2 : Int) (r3 : Int) (w0 w : World) (hI : IsS68 w0 w g s0_0 s0_1 s0_2) (hB : Below w0.heap.size w0 w) (h : Zbd.f s0_0 s0_1 s0_2 a1 = some (r1, r2, r3)) :
  Calls Try.prog 92 #[.pointer (some ⟨g, 0, none⟩), .int .i64 a1] w fun e w' => e = .returned (.bool r1) ∧ IsS68 w0 w' g s0_0 r2 r3 ∧ Below w0.heap.size w0 w' ∧ KeepBut w w' g none := by
 have HI0 := Aside0.mk hI
 have HK := Aside0.mk (KeepBut.refl w g none)
 have HL := Aside0.mk hB.size
 clear hI
 have HW0 := Aside0.mk hB.size
 have HB := Aside0.mk hB
 clear hB
 have H := h
 unfold Zbd.f at H
 clear h
 replace H := Option.bind_eq_some_iff.mp H
 obtain ⟨⟨t112, t113, t114⟩, A30, H⟩ := H
 replace H : (some ((t112 == 0), t113, t114)) = some (r1, r2, r3) := H
 have A3 := Aside0.mk A30
 clear A30
 simp only [Option.some.injEq, Prod.mk.injEq] at H
 obtain ⟨rfl, rfl, rfl⟩ := H
 go_enter Try.func92, Try.ntmps92
 go_wp2_with (first | ((with_reducible refine gate_callee (f := 97) rfl ?_); refine goesA (some 7) Try.func97 #[.pointer (some ⟨g, 0, none⟩), .int .i64 a1] ?_; (with_reducible refine (Zax.calls g s0_0 s0_1 s0_2 a1 t112 t113 t114 w0 _ ?side1 ?side2 A3.out).mono ?_); (case side1 => exact IsS68.at HI0); (case side2 => exact atB HB); rintro e w4 ⟨rfl, hi, hb, hk⟩; refine ⟨_, rfl, ?_⟩; replace HK := upK HK hk; replace HB := Aside0.mk (hb); replace HI0 := Aside0.mk (hi)))
 go_ret
 exact ⟨eqr, IsS68.at HI0, atB HB, atK HK⟩
mutual
def Zag.l0 : Nat → List Int → Int → List Int → Int → Int → Option (List Int × Int × Int)
 | 0, _, _, _, _, _ => none
 | k + 1, x3, x4, x1000, x1001, x1002 => if x4 > 0 then ((Zbd.f x1000 x1001 x1002 3).bind fun bt125 => (if bt125.1 = true then (if x3.length < 17592186044416 then (Zag.l0 k (x3 ++ [wrap64 ((x3.length : Int) - 1)]) (wrap64 (x4 - 1)) x1000 bt125.2.1 bt125.2.2) else (none)) else ((Zax.f x1000 bt125.2.1 bt125.2.2 (x3.length : Int)).bind fun bt131 => (if x3.length < 17592186044416 then (Zag.l0 k (x3 ++ [bt131.1]) (wrap64 (x4 - 1)) x1000 bt131.2.1 bt131.2.2) else (none))))) else ((Zax.f x1000 x1001 x1002 14).bind fun bt137 => (if bt137.1 = 0 then ((Zax.f x1000 bt137.2.1 bt137.2.2 (x3.length : Int)).bind fun bt140 => ((Zbp.f x1000 bt140.2.1 bt140.2.2 (([(-1), (-2), 0, 5, 4611686018427387904] : List Int))).bind fun bt146 => (if 0 ≤ bt140.1 then (if bt140.1 < (x3.length : Int) then (some ((x3.set (bt140.1 : Int).toNat bt146.1), bt146.2.1, bt146.2.2)) else (none)) else (none)))) else (if bt137.1 = 1 then (some (([] : List Int), bt137.2.1, bt137.2.2)) else (if bt137.1 = 2 then (Zag.l1 k x3 x1000 bt137.2.1 bt137.2.2) else (some (x3, bt137.2.1, bt137.2.2))))))
def Zag.l1 : Nat → List Int → List Int → Int → Int → Option (List Int × Int × Int)
 | 0, _, _, _, _ => none
 | k + 1, x3, x1000, x1001, x1002 => (Zax.f x1000 x1001 x1002 2).bind fun bt150 => (if (x3.length : Int) < (wrap64 (9 + bt150.1)) then (if x3.length < 17592186044416 then (Zag.l1 k (x3 ++ [0]) x1000 bt150.2.1 bt150.2.2) else (none)) else (some (x3, bt150.2.1, bt150.2.2)))
end
def Zag.f (k : Nat) (s0_0 : List Int) (s0_1 : Int) (s0_2 : Int) : Option (List Int × Int × Int) := (Zax.f s0_0 s0_1 s0_2 7).bind fun bt122 => (Zag.l0 k (([(-1)] : List Int)) bt122.1 s0_0 bt122.2.1 bt122.2.2)
theorem Zag.mono_l : ∀ k, (∀ y0 y1 y2 y3 y4, LeO (Zag.l0 k y0 y1 y2 y3 y4) (Zag.l0 (k + 1) y0 y1 y2 y3 y4)) ∧ (∀ y0 y1 y2 y3, LeO (Zag.l1 k y0 y1 y2 y3) (Zag.l1 (k + 1) y0 y1 y2 y3))
 | 0 => ⟨fun _ _ _ _ _ r h => by simp [Zag.l0] at h, fun _ _ _ _ r h => by simp [Zag.l1] at h⟩
 | k + 1 => by
  obtain ⟨ih0, ih1⟩ := Zag.mono_l k
  refine ⟨?_, ?_⟩
  ·intro y0 y1 y2 y3 y4
   unfold Zag.l0
   repeat' (first | (with_reducible first | exact ih0 _ _ _ _ _ | exact ih1 _ _ _ _ | exact LeO.refl _ | exact LeO.none _ | refine LeO.ite ?_ ?_ | refine LeO.bind ?_ (fun _ => ?_)) | exact ih0 _ _ _ _ _ | exact ih1 _ _ _ _ | exact LeO.none _ | refine LeO.ite ?_ ?_ | refine LeO.bind ?_ (fun _ => ?_))
  ·intro y0 y1 y2 y3
   unfold Zag.l1
   repeat' (first | (with_reducible first | exact ih1 _ _ _ _ | exact LeO.refl _ | exact LeO.none _ | refine LeO.ite ?_ ?_ | refine LeO.bind ?_ (fun _ => ?_)) | exact ih1 _ _ _ _ | exact LeO.none _ | refine LeO.ite ?_ ?_ | refine LeO.bind ?_ (fun _ => ?_))
theorem Zag.mono : ∀ a0 a1 a2 k, LeO (Zag.f k a0 a1 a2) (Zag.f (k + 1) a0 a1 a2) := by
 intro a0 a1 a2 k
 obtain ⟨ih0, ih1⟩ := Zag.mono_l k
 unfold Zag.f
 repeat' (first | (with_reducible first | exact ih0 _ _ _ _ _ | exact LeO.refl _ | exact LeO.none _ | refine LeO.ite ?_ ?_ | refine LeO.bind ?_ (fun _ => ?_)) | exact ih0 _ _ _ _ _ | exact LeO.none _ | refine LeO.ite ?_ ?_ | refine LeO.bind ?_ (fun _ => ?_))
theorem Zag.calls (k : Nat) (g : Nat) (s0_0 : List Int) (s0_1 : Int) (s0_2 : Int) (r1 : List Int) (r2 : Int) (r3 : Int) (w0 w : World) (hI : IsS68 w0 w g s0_0 s0_1 s0_2) (hB : Below w0.heap.size w0 w) (h : Zag.f k s0_0 s0_1 s0_2 = some (r1, r2, r3)) :
  Calls Try.prog 91 #[.pointer (some ⟨g, 0, none⟩)] w fun e w' => ∃ v0_ : Value, e = .returned (v0_) ∧ Kd.R (Kd.int .i64) 3 w' w.heap.size (fun _ => True) v0_ r1 ∧ IsS68 w0 w' g s0_0 r2 r3 ∧ Below w0.heap.size w0 w' ∧ KeepBut w w' g none := by
 have HI0 := Aside0.mk hI
 have HK := Aside0.mk (KeepBut.refl w g none)
 have HL := Aside0.mk hB.size
 clear hI
 have HW0 := Aside0.mk hB.size
 have HB := Aside0.mk hB
 clear hB
 have H := h
 unfold Zag.f at H
 clear h
 obtain ⟨y119, hy119⟩ : ∃ y_ : List Int, y_ = (([(-1)] : List Int)) := ⟨_, rfl⟩
 replace H : ((Zax.f s0_0 s0_1 s0_2 7).bind fun bt122 => (Zag.l0 k y119 bt122.1 s0_0 bt122.2.1 bt122.2.2)) = some (r1, r2, r3) := by first | (rw [hy119]; with_reducible exact H) | (have H2_ := (Option.bind_some _ _).symm.trans H; rw [hy119]; with_reducible exact H2_) | (have H2_ := (Option.bind_some _ _).symm.trans H; with_reducible exact H2_) | with_reducible exact H | (rw [hy119]; exact H) | exact H
 have Ny119 := Aside0.mk hy119
 clear hy119
 replace H := Option.bind_eq_some_iff.mp H
 obtain ⟨⟨t122, t123, t124⟩, A20, H⟩ := H
 replace H : (Zag.l0 k y119 t122 s0_0 t123 t124) = some (r1, r2, r3) := H
 have A2 := Aside0.mk A20
 clear A20
 have H' := Aside0.mk H
 clear H
 go_enter Try.func91, Try.ntmps91
 go_wp2_with (first | ((with_reducible refine gate_dst (N := 5) rfl ?_); refine Kd.R_lit (Kd.int .i64) _ 3 ?hg (N := 5) ?hd (xs := ([(-1)] : List Int)) (inner := [.int .i64 (-1)]) (ok := fun _ => True) (okp := fun _ => True) ?hr ?hp (fun _ hk => hk) trivial (Below.refl _ _) (Nat.le_refl _) (by simp) ?_; (case hd => rfl); (case hg => rfl); (case hr => first | (go_simp; done) | (go_simp; rfl)); (case hp => exact repsI _); intro v120 w3 ho4 hb hg_ hnew_; clear hg_ hnew_; (first | rw [← Ny119.out] at ho4 | (simp only [Int.reduceToNat] at ho4; rw [← Ny119.out] at ho4)); have HO121 := lowKR ho4 HK; replace HI0 := IsS68.up HI0 hb; replace HK := upKB HK hb; replace HB := upB HB hb; clear hb ho4) | ((with_reducible refine gate_callee (f := 97) rfl ?_); refine goesA (some 7) Try.func97 #[.pointer (some ⟨g, 0, none⟩), .int .i64 7] ?_; (with_reducible refine (Zax.calls g s0_0 s0_1 s0_2 7 t122 t123 t124 w0 _ ?side1 ?side2 A2.out).mono ?_); (case side1 => exact IsS68.at HI0); (case side2 => exact atB HB); rintro e w5 ⟨rfl, hi, hb, hk⟩; refine ⟨_, rfl, ?_⟩; replace HO121 := IsS68.keepR HI0 HO121 hk; replace HK := upK HK hk; replace HB := Aside0.mk (hb); replace HI0 := Aside0.mk (hi)))
 go_loopg [3, 4] k (fun kq v3 v4 w' => ∃ (x3_1 : List Int) (x4_1 : Int) (x1001_1 : Int) (x1002_1 : Int), v4 = .int .i64 x4_1 ∧ Aside0 (Zag.l0 kq x3_1 x4_1 s0_0 x1001_1 x1002_1 = some (r1, r2, r3)) ∧ Aside0 (kq ≤ k) ∧ Aside0 (Kd.R (Kd.int .i64) 3 w' w.heap.size (fun _ => True) v3 x3_1) ∧ Aside0 (IsS68 w0 w' g s0_0 x1001_1 x1002_1) ∧ Aside0 (KeepBut w w' g none) ∧ Aside0 (Below w0.heap.size w0 w'))
 case atStart => exact ⟨(y119), (t122), (t123), (t124), eqd, H', ⟨Nat.le_refl _⟩, ⟨atR HO121⟩, ⟨IsS68.at HI0⟩, ⟨atK HK⟩, ⟨atB HB⟩⟩
 case round =>
  clear H'
  obtain ⟨x3_1, x4_1, x1001_1, x1002_1, rfl, HA, HK1, HO_3, HI0, HK, HB⟩ := hrel
  cases gk with
  | zero => exact absurd HA.out (by simp [Zag.l0])
  | succ k1 =>
   have H := HA.out
   clear HA
   simp only [Zag.l0] at H
   by_cases c6 : x4_1 > 0
   ·rw [if_pos c6] at H
    have c6b0 := decide_eq_true c6
    clear c6
    replace H := Option.bind_eq_some_iff.mp H
    obtain ⟨⟨t125, t126, t127⟩, A70, H⟩ := H
    replace H : (if t125 = true then (if x3_1.length < 17592186044416 then (Zag.l0 k1 (x3_1 ++ [wrap64 ((x3_1.length : Int) - 1)]) (wrap64 (x4_1 - 1)) s0_0 t126 t127) else (none)) else ((Zax.f s0_0 t126 t127 (x3_1.length : Int)).bind fun bt131 => (if x3_1.length < 17592186044416 then (Zag.l0 k1 (x3_1 ++ [bt131.1]) (wrap64 (x4_1 - 1)) s0_0 bt131.2.1 bt131.2.2) else (none)))) = some (r1, r2, r3) := H
    have A7 := Aside0.mk A70
    clear A70
    by_cases c8 : t125 = true
    ·subst c8
     replace H := it_ H
     obtain ⟨c9, H⟩ := in0_ H
     have LMc9 := Aside0.mk c9
     clear c9
     obtain ⟨y128, hy128⟩ : ∃ y_ : List Int, y_ = (x3_1 ++ [wrap64 ((x3_1.length : Int) - 1)]) := ⟨_, rfl⟩
     replace H : (Zag.l0 k1 y128 (wrap64 (x4_1 - 1)) s0_0 t126 t127) = some (r1, r2, r3) := by first | (rw [hy128]; with_reducible exact H) | (have H2_ := (Option.bind_some _ _).symm.trans H; rw [hy128]; with_reducible exact H2_) | (have H2_ := (Option.bind_some _ _).symm.trans H; with_reducible exact H2_) | with_reducible exact H | (rw [hy128]; exact H) | exact H
     have Ny128 := Aside0.mk hy128
     clear hy128
     have H' := Aside0.mk H
     clear H
     go_wp2_with (first | ((with_reducible refine gate_callee (f := 92) rfl ?_); refine goesA (some 13) Try.func92 #[.pointer (some ⟨g, 0, none⟩), .int .i64 3] ?_; (with_reducible refine (Zbd.calls g s0_0 x1001_1 x1002_1 3 true t126 t127 w0 _ ?side1 ?side2 A7.out).mono ?_); (case side1 => exact IsS68.at HI0); (case side2 => exact atB HB); rintro e w10 ⟨rfl, hi, hb, hk⟩; refine ⟨_, rfl, ?_⟩; replace HO_3 := IsS68.keepR HI0 HO_3 hk; replace HK := upK HK hk; replace HB := Aside0.mk (hb); replace HI0 := Aside0.mk (hi); obtain ⟨Ao11, co11, eo11⟩ := Kd.R_slice HO_3.out; subst eo11) | ((with_reducible refine gate_builtin (b := .append) (xs := #[.tmp 14, .tmp 18]) rfl ?_); at_builtin; refine Kd.R_append (Kd.int .i64) w.heap.size rfl (.tmp 14) (.tmp 18) 24 3 (.int .i64 0) 8 rfl Try.underlying24 info3 rfl (by decide) (by omega) (.slice Ao11 x3_1.length co11) x3_1 (wrap64 ((x3_1.length : Int) - 1)) [.int .i64 (wrap64 ((x3_1.length : Int) - 1))] (fun _ => True) (fun _ => False) rfl rfl ?aP (fun _ hk => hk.elim) ?aF ?aO (Below.refl _ _) ?aS ?aL ?_; (case aP => exact rfl); (case aF => exact (fun _ _ => trivial)); (case aO => exact (atR HO_3)); (case aS => exact (szK HK)); (case aL => have := LMc9.out; omega); intro v129 w12 ho hb hg hat; rw [← Ny128.out] at ho; have HO130 := Aside0.mk (ho); replace HI0 := Aside0.mk (IsS68.grown (IsS68.at HI0) hg (IsS68.own_ne HI0.out HO_3.out (by decide))); replace HB := Aside0.mk (below_weaken (atB HB) HL.out hb); replace HK := Aside0.mk (KeepBut.trans (atK HK) (KeepBut.of_grown hg g) (Kd.R_base2 HO_3.out)); clear HO_3; clear ho hb hg hat))
     go_roundg k1
     case measure => have := HK1.out; omega
     case rel => exact ⟨(y128), (wrap64 (x4_1 - 1)), (t126), (t127), eqd, H', ⟨by have := HK1.out; omega⟩, ⟨atR HO130⟩, ⟨IsS68.at HI0⟩, ⟨atK HK⟩, ⟨atB HB⟩⟩
    ·replace c8 := Bool.eq_false_iff.mpr c8
     subst c8
     replace H := if_ H
     replace H := Option.bind_eq_some_iff.mp H
     obtain ⟨⟨t131, t132, t133⟩, A130, H⟩ := H
     replace H : (if x3_1.length < 17592186044416 then (Zag.l0 k1 (x3_1 ++ [t131]) (wrap64 (x4_1 - 1)) s0_0 t132 t133) else (none)) = some (r1, r2, r3) := H
     have A13 := Aside0.mk A130
     clear A130
     obtain ⟨c14, H⟩ := in0_ H
     have LMc14 := Aside0.mk c14
     clear c14
     obtain ⟨y134, hy134⟩ : ∃ y_ : List Int, y_ = (x3_1 ++ [t131]) := ⟨_, rfl⟩
     replace H : (Zag.l0 k1 y134 (wrap64 (x4_1 - 1)) s0_0 t132 t133) = some (r1, r2, r3) := by first | (rw [hy134]; with_reducible exact H) | (have H2_ := (Option.bind_some _ _).symm.trans H; rw [hy134]; with_reducible exact H2_) | (have H2_ := (Option.bind_some _ _).symm.trans H; with_reducible exact H2_) | with_reducible exact H | (rw [hy134]; exact H) | exact H
     have Ny134 := Aside0.mk hy134
     clear hy134
     have H' := Aside0.mk H
     clear H
     go_wp2_with (first | ((with_reducible refine gate_callee (f := 92) rfl ?_); refine goesA (some 13) Try.func92 #[.pointer (some ⟨g, 0, none⟩), .int .i64 3] ?_; (with_reducible refine (Zbd.calls g s0_0 x1001_1 x1002_1 3 false t126 t127 w0 _ ?side1 ?side2 A7.out).mono ?_); (case side1 => exact IsS68.at HI0); (case side2 => exact atB HB); rintro e w15 ⟨rfl, hi, hb, hk⟩; refine ⟨_, rfl, ?_⟩; replace HO_3 := IsS68.keepR HI0 HO_3 hk; replace HK := upK HK hk; replace HB := Aside0.mk (hb); replace HI0 := Aside0.mk (hi); obtain ⟨Ao16, co16, eo16⟩ := Kd.R_slice HO_3.out; subst eo16) | ((with_reducible refine gate_callee (f := 97) rfl ?_); refine goesA (some 24) Try.func97 #[.pointer (some ⟨g, 0, none⟩), .int .i64 (x3_1.length : Int)] ?_; (with_reducible refine (Zax.calls g s0_0 t126 t127 (x3_1.length : Int) t131 t132 t133 w0 _ ?side1 ?side2 A13.out).mono ?_); (case side1 => exact IsS68.at HI0); (case side2 => exact atB HB); rintro e w17 ⟨rfl, hi, hb, hk⟩; refine ⟨_, rfl, ?_⟩; replace HO_3 := IsS68.keepR HI0 HO_3 hk; replace HK := upK HK hk; replace HB := Aside0.mk (hb); replace HI0 := Aside0.mk (hi)) | ((with_reducible refine gate_builtin (b := .append) (xs := #[.tmp 20, .tmp 25]) rfl ?_); at_builtin; refine Kd.R_append (Kd.int .i64) w.heap.size rfl (.tmp 20) (.tmp 25) 24 3 (.int .i64 0) 8 rfl Try.underlying24 info3 rfl (by decide) (by omega) (.slice Ao16 x3_1.length co16) x3_1 t131 [.int .i64 t131] (fun _ => True) (fun _ => False) rfl rfl ?aP (fun _ hk => hk.elim) ?aF ?aO (Below.refl _ _) ?aS ?aL ?_; (case aP => exact rfl); (case aF => exact (fun _ _ => trivial)); (case aO => exact (atR HO_3)); (case aS => exact (szK HK)); (case aL => have := LMc14.out; omega); intro v135 w18 ho hb hg hat; rw [← Ny134.out] at ho; have HO136 := Aside0.mk (ho); replace HI0 := Aside0.mk (IsS68.grown (IsS68.at HI0) hg (IsS68.own_ne HI0.out HO_3.out (by decide))); replace HB := Aside0.mk (below_weaken (atB HB) HL.out hb); replace HK := Aside0.mk (KeepBut.trans (atK HK) (KeepBut.of_grown hg g) (Kd.R_base2 HO_3.out)); clear HO_3; clear ho hb hg hat))
     go_roundg k1
     case measure => have := HK1.out; omega
     case rel => exact ⟨(y134), (wrap64 (x4_1 - 1)), (t132), (t133), eqd, H', ⟨by have := HK1.out; omega⟩, ⟨atR HO136⟩, ⟨IsS68.at HI0⟩, ⟨atK HK⟩, ⟨atB HB⟩⟩
   ·rw [if_neg c6] at H
    have c6b0 := decide_eq_false c6
    clear c6
    replace H := Option.bind_eq_some_iff.mp H
    obtain ⟨⟨t137, t138, t139⟩, A190, H⟩ := H
    replace H : (if t137 = 0 then ((Zax.f s0_0 t138 t139 (x3_1.length : Int)).bind fun bt140 => ((Zbp.f s0_0 bt140.2.1 bt140.2.2 (([(-1), (-2), 0, 5, 4611686018427387904] : List Int))).bind fun bt146 => (if 0 ≤ bt140.1 then (if bt140.1 < (x3_1.length : Int) then (some ((x3_1.set (bt140.1 : Int).toNat bt146.1), bt146.2.1, bt146.2.2)) else (none)) else (none)))) else (if t137 = 1 then (some (([] : List Int), t138, t139)) else (if t137 = 2 then (Zag.l1 k1 x3_1 s0_0 t138 t139) else (some (x3_1, t138, t139))))) = some (r1, r2, r3) := H
    have A19 := Aside0.mk A190
    clear A190
    by_cases c20 : t137 = 0
    ·rw [if_pos c20] at H
     have c20b0 : (t137 == 0) = true := beq_iff_eq.mpr c20
     have c20b1 : (t137 != 0) = false := bne_eq_false_iff_eq.mpr c20
     clear c20
     replace H := Option.bind_eq_some_iff.mp H
     obtain ⟨⟨t140, t141, t142⟩, A210, H⟩ := H
     replace H : ((Zbp.f s0_0 t141 t142 (([(-1), (-2), 0, 5, 4611686018427387904] : List Int))).bind fun bt146 => (if 0 ≤ t140 then (if t140 < (x3_1.length : Int) then (some ((x3_1.set (t140 : Int).toNat bt146.1), bt146.2.1, bt146.2.2)) else (none)) else (none))) = some (r1, r2, r3) := H
     have A21 := Aside0.mk A210
     clear A210
     obtain ⟨y143, hy143⟩ : ∃ y_ : List Int, y_ = (([(-1), (-2), 0, 5, 4611686018427387904] : List Int)) := ⟨_, rfl⟩
     replace H : ((Zbp.f s0_0 t141 t142 y143).bind fun bt146 => (if 0 ≤ t140 then (if t140 < (x3_1.length : Int) then (some ((x3_1.set (t140 : Int).toNat bt146.1), bt146.2.1, bt146.2.2)) else (none)) else (none))) = some (r1, r2, r3) := by first | (rw [hy143]; with_reducible exact H) | (have H2_ := (Option.bind_some _ _).symm.trans H; rw [hy143]; with_reducible exact H2_) | (have H2_ := (Option.bind_some _ _).symm.trans H; with_reducible exact H2_) | with_reducible exact H | (rw [hy143]; exact H) | exact H
     have Ny143 := Aside0.mk hy143
     clear hy143
     replace H := Option.bind_eq_some_iff.mp H
     obtain ⟨⟨t146, t147, t148⟩, A220, H⟩ := H
     replace H : (if 0 ≤ t140 then (if t140 < (x3_1.length : Int) then (some ((x3_1.set (t140 : Int).toNat t146), t147, t148)) else (none)) else (none)) = some (r1, r2, r3) := H
     have A22 := Aside0.mk A220
     clear A220
     obtain ⟨c23b0, H⟩ := in_ H
     obtain ⟨c24b0, H⟩ := in_ H
     obtain ⟨y149, hy149⟩ : ∃ y_ : List Int, y_ = (x3_1.set (t140 : Int).toNat t146) := ⟨_, rfl⟩
     replace H : (some (y149, t147, t148)) = some (r1, r2, r3) := by first | (rw [hy149]; with_reducible exact H) | (have H2_ := (Option.bind_some _ _).symm.trans H; rw [hy149]; with_reducible exact H2_) | (have H2_ := (Option.bind_some _ _).symm.trans H; with_reducible exact H2_) | with_reducible exact H | (rw [hy149]; exact H) | exact H
     have Ny149 := Aside0.mk hy149
     clear hy149
     simp only [Option.some.injEq, Prod.mk.injEq] at H
     obtain ⟨rfl, rfl, rfl⟩ := H
     go_wp2_with (first | ((with_reducible refine gate_callee (f := 97) rfl ?_); refine goesA (some 28) Try.func97 #[.pointer (some ⟨g, 0, none⟩), .int .i64 14] ?_; (with_reducible refine (Zax.calls g s0_0 x1001_1 x1002_1 14 t137 t138 t139 w0 _ ?side1 ?side2 A19.out).mono ?_); (case side1 => exact IsS68.at HI0); (case side2 => exact atB HB); rintro e w26 ⟨rfl, hi, hb, hk⟩; refine ⟨_, rfl, ?_⟩; replace HO_3 := IsS68.keepR HI0 HO_3 hk; replace HK := upK HK hk; replace HB := Aside0.mk (hb); replace HI0 := Aside0.mk (hi); obtain ⟨Ao27, co27, eo27⟩ := Kd.R_slice HO_3.out; subst eo27) | ((with_reducible refine gate_callee (f := 97) rfl ?_); refine goesA (some 35) Try.func97 #[.pointer (some ⟨g, 0, none⟩), .int .i64 (x3_1.length : Int)] ?_; (with_reducible refine (Zax.calls g s0_0 t138 t139 (x3_1.length : Int) t140 t141 t142 w0 _ ?side1 ?side2 A21.out).mono ?_); (case side1 => exact IsS68.at HI0); (case side2 => exact atB HB); rintro e w28 ⟨rfl, hi, hb, hk⟩; refine ⟨_, rfl, ?_⟩; replace HO_3 := IsS68.keepR HI0 HO_3 hk; replace HK := upK HK hk; replace HB := Aside0.mk (hb); replace HI0 := Aside0.mk (hi)) | ((with_reducible refine gate_dst (N := 37) rfl ?_); refine Kd.R_lit (Kd.int .i64) _ 3 ?hg (N := 37) ?hd (xs := ([(-1), (-2), 0, 5, 4611686018427387904] : List Int)) (inner := [.int .i64 (-1), .int .i64 (-2), .int .i64 0, .int .i64 5, .int .i64 4611686018427387904]) (ok := fun _ => True) (okp := fun _ => True) ?hr ?hp (fun _ hk => hk) trivial (Below.refl _ _) (Nat.le_refl _) (by simp) ?_; (case hd => rfl); (case hg => rfl); (case hr => first | (go_simp; done) | (go_simp; rfl)); (case hp => exact repsI _); intro v144 w29 ho30 hb hg_ hnew_; clear hg_ hnew_; (first | rw [← Ny143.out] at ho30 | (simp only [Int.reduceToNat] at ho30; rw [← Ny143.out] at ho30)); have HO145 := Aside0.mk (Kd.R_lower (Kd.R_new' ho30 (ltR HO_3)) (szK HK)); replace HO_3 := eldRR HO_3 ho30 hb; replace HI0 := IsS68.up HI0 hb; replace HK := upKB HK hb; replace HB := upB HB hb; clear hb ho30; obtain ⟨Ao31, co31, eo31⟩ := Kd.R_slice HO145.out; subst eo31) | ((with_reducible refine gate_callee (f := 109) rfl ?_); refine goesA (some 38) Try.func109 #[.pointer (some ⟨g, 0, none⟩), .slice Ao31 y143.length co31] ?_; (with_reducible refine (Zbp.calls g s0_0 t141 t142 _ _ y143 t146 t147 t148 w0 _ ?side1 ?side2 ?side3 ?side4 ?side5 A22.out).mono ?_); (case side1 => exact IsS68.at HI0); (case side2 => exact atB HB); (case side3 => exact atRC HO145); (case side4 => exact (Kd.R_reads' HO145.out).2.1); (case side5 => exact far_slice (IsS68.own_ne HI0.out HO145.out (by decide))); rintro e w32 ⟨rfl, hi, hb, hk⟩; refine ⟨_, rfl, ?_⟩; replace HO_3 := IsS68.keepR HI0 HO_3 hk; replace HO145 := IsS68.keepR HI0 HO145 hk; replace HK := upK HK hk; replace HB := Aside0.mk (hb); replace HI0 := Aside0.mk (hi); have p25 : 0 ≤ (t140 : Int) := ofd; have q25 : (t140 : Int) < ((x3_1.length : Int) : Int) := ofd; obtain ⟨go25, co25, eo25, gb25, gl25, cl25, HG25⟩ := Kd.R_form HO_3.out (by omega); (first | cases eo25 | (injection eo25 with ea_ en_ ec_; (first | subst ea_ | (injection ea_ with ea_; subst ea_)); subst ec_; clear en_)); have GB25 := Aside0.mk gb25; have GG25 := Aside0.mk HG25; clear gb25 gl25 HG25; obtain ⟨hx25_0, hf25_0⟩ := Kd.R_celln 0 HO_3.out (t140 : Int) p25 q25; replace p25 := eq_true p25; replace q25 := eq_true q25; have n_ := Aside0.mk (Kd.R_mono (ok' := (fun k_ => some k_ ≠ (.slice Ao31 y143.length co31 : Value).ownBlock)) HO_3.out (fun k_ hk => hk.2)); clear HO_3; have HO_3 := n_; clear n_; obtain ⟨hy33_, hz33_⟩ := Kd.R_celln 0 HO_3.out (t140 : Int) (of_decide_eq_true (by first | (with_reducible assumption) | assumption)) (of_decide_eq_true (by first | (with_reducible assumption) | assumption)); have HP33 := Kd.R_putg HO_3.out (t140 : Int) t146) | ((with_reducible refine gate_store (t := 3) (p := 39) rfl ?_); refine store_event (t := 3) (p := 39) (v := ?vo_w34) (w1 := (w32.setCell ⟨go25, (t140 : Int).toNat, none⟩ (.int .i64 t146))) ?hg ?ho ?hn ?hr ?_; (case ho => rfl); (case hg => rfl); (case hn => rfl); (case hr => first | (go_simp; done) | (go_simp; rfl)); intro w34 hw; have hg : w32.grownBy w34 (some go25) := (by rw [hw]; exact HP33.2); have hp_ : Kd.R (Kd.int .i64) 3 w34 w.heap.size (fun k_ => some k_ ≠ (.slice Ao31 y143.length co31 : Value).ownBlock) (.slice (some ⟨go25, 0, none⟩) x3_1.length co27) y149 := (by rw [hw, Ny149.out]; exact HP33.1); clear HP33; replace HI0 := Aside0.mk (IsS68.grown (IsS68.at HI0) hg (IsS68.own_ne HI0.out HO_3.out (by decide))); replace HO145 := Aside0.mk (Kd.R_after (v := (.slice (some ⟨go25, 0, none⟩) x3_1.length co27)) (v1 := (.slice (some ⟨go25, 0, none⟩) x3_1.length co27)) (ok := (fun _ => True)) (atR HO145) hg (.inl rfl)); replace HB := Aside0.mk ((by rw [hw]; exact below_set (HB.out) (Nat.le_trans HL.out GB25.out) : Below w0.heap.size w0 w34)); replace HK := Aside0.mk (KeepBut.trans (atK HK) (KeepBut.of_grown hg g) (Kd.R_base2 HO_3.out)); replace HO_3 := Aside0.mk (hp_); clear hg hw hp_))
     go_ret
     exact ⟨_, eqr, by (with_reducible repeat (first | apply Kd.R_alloc | apply Kd.R_drewN | apply Kd.R_drew)); exact Kd.R_mono HO_3.out (fun _ hk => trivial), IsS68.at HI0, atB HB, atK HK⟩
    ·rw [if_neg c20] at H
     have c20b0 : (t137 == 0) = false := beq_eq_false_iff_ne.mpr c20
     have c20b1 : (t137 != 0) = true := bne_iff_ne.mpr c20
     by_cases c35 : t137 = 1
     ·rw [if_pos c35] at H
      have c35b0 : (t137 == 1) = true := beq_iff_eq.mpr c35
      have c35b1 : (t137 != 1) = false := bne_eq_false_iff_eq.mpr c35
      clear c35
      simp only [Option.some.injEq, Prod.mk.injEq] at H
      obtain ⟨rfl, rfl, rfl⟩ := H
      go_wp2_with (first | ((with_reducible refine gate_callee (f := 97) rfl ?_); refine goesA (some 28) Try.func97 #[.pointer (some ⟨g, 0, none⟩), .int .i64 14] ?_; (with_reducible refine (Zax.calls g s0_0 x1001_1 x1002_1 14 t137 t138 t139 w0 _ ?side1 ?side2 A19.out).mono ?_); (case side1 => exact IsS68.at HI0); (case side2 => exact atB HB); rintro e w36 ⟨rfl, hi, hb, hk⟩; refine ⟨_, rfl, ?_⟩; replace HO_3 := IsS68.keepR HI0 HO_3 hk; replace HK := upK HK hk; replace HB := Aside0.mk (hb); replace HI0 := Aside0.mk (hi)))
      go_ret
      exact ⟨_, eqr, by first | exact Kd.R_nil _ _ _ _ _ | exact Kd.N_nil _ _ _ _ _ | exact Kd.V_nil _ _ _ _ _ | exact Kd.Q_nil _ _ _ _ _ | exact Kd.S_nil _ _ _ _ _, IsS68.at HI0, atB HB, atK HK⟩
     rw [if_neg c35] at H
     have c35b0 : (t137 == 1) = false := beq_eq_false_iff_ne.mpr c35
     have c35b1 : (t137 != 1) = true := bne_iff_ne.mpr c35
     by_cases c37 : t137 = 2
     rotate_left
     ·rw [if_neg c37] at H
      have c37b0 : (t137 == 2) = false := beq_eq_false_iff_ne.mpr c37
      have c37b1 : (t137 != 2) = true := bne_iff_ne.mpr c37
      simp only [Option.some.injEq, Prod.mk.injEq] at H
      obtain ⟨rfl, rfl, rfl⟩ := H
      go_wp2_with (first | ((with_reducible refine gate_callee (f := 97) rfl ?_); refine goesA (some 28) Try.func97 #[.pointer (some ⟨g, 0, none⟩), .int .i64 14] ?_; (with_reducible refine (Zax.calls g s0_0 x1001_1 x1002_1 14 t137 t138 t139 w0 _ ?side1 ?side2 A19.out).mono ?_); (case side1 => exact IsS68.at HI0); (case side2 => exact atB HB); rintro e w47 ⟨rfl, hi, hb, hk⟩; refine ⟨_, rfl, ?_⟩; replace HO_3 := IsS68.keepR HI0 HO_3 hk; replace HK := upK HK hk; replace HB := Aside0.mk (hb); replace HI0 := Aside0.mk (hi)))
      go_ret
      exact ⟨_, eqr, atR HO_3, IsS68.at HI0, atB HB, atK HK⟩
     rw [if_pos c37] at H
     have c37b0 : (t137 == 2) = true := beq_iff_eq.mpr c37
     have c37b1 : (t137 != 2) = false := bne_eq_false_iff_eq.mpr c37
     clear c37
     have H' := Aside0.mk H
     clear H
     go_wp2_with (first | ((with_reducible refine gate_callee (f := 97) rfl ?_); refine goesA (some 28) Try.func97 #[.pointer (some ⟨g, 0, none⟩), .int .i64 14] ?_; (with_reducible refine (Zax.calls g s0_0 x1001_1 x1002_1 14 t137 t138 t139 w0 _ ?side1 ?side2 A19.out).mono ?_); (case side1 => exact IsS68.at HI0); (case side2 => exact atB HB); rintro e w38 ⟨rfl, hi, hb, hk⟩; refine ⟨_, rfl, ?_⟩; replace HO_3 := IsS68.keepR HI0 HO_3 hk; replace HK := upK HK hk; replace HB := Aside0.mk (hb); replace HI0 := Aside0.mk (hi)))
     go_loopg [3] k1 (fun kq v3 w' => ∃ (x3_2 : List Int) (x1001_2 : Int) (x1002_2 : Int), Aside0 (Zag.l1 kq x3_2 s0_0 x1001_2 x1002_2 = some (r1, r2, r3)) ∧ Aside0 (kq ≤ k1) ∧ Aside0 (Kd.R (Kd.int .i64) 3 w' w.heap.size (fun _ => True) v3 x3_2) ∧ Aside0 (IsS68 w0 w' g s0_0 x1001_2 x1002_2) ∧ Aside0 (KeepBut w w' g none) ∧ Aside0 (Below w0.heap.size w0 w'))
     case atStart => exact ⟨(x3_1), (t138), (t139), H', ⟨Nat.le_refl _⟩, ⟨atR HO_3⟩, ⟨IsS68.at HI0⟩, ⟨atK HK⟩, ⟨atB HB⟩⟩
     case round =>
      clear H'
      try clear c6b0
      try clear c20
      try clear c20b0
      try clear c20b1
      try clear c35
      try clear c35b0
      try clear c35b1
      try clear c37b0
      try clear c37b1
      obtain ⟨x3_2, x1001_2, x1002_2, HA, HK2, HO_3, HI0, HK, HB⟩ := hrel
      cases gk with
      | zero => exact absurd HA.out (by simp [Zag.l1])
      | succ k2 =>
       have H := HA.out
       clear HA
       simp only [Zag.l1] at H
       replace H := Option.bind_eq_some_iff.mp H
       obtain ⟨⟨t150, t151, t152⟩, A390, H⟩ := H
       replace H : (if (x3_2.length : Int) < (wrap64 (9 + t150)) then (if x3_2.length < 17592186044416 then (Zag.l1 k2 (x3_2 ++ [0]) s0_0 t151 t152) else (none)) else (some (x3_2, t151, t152))) = some (r1, r2, r3) := H
       have A39 := Aside0.mk A390
       clear A390
       by_cases c40 : (x3_2.length : Int) < (wrap64 (9 + t150))
       rotate_left
       ·rw [if_neg c40] at H
        have c40b0 := decide_eq_false c40
        clear c40
        simp only [Option.some.injEq, Prod.mk.injEq] at H
        obtain ⟨rfl, rfl, rfl⟩ := H
        obtain ⟨Ao45, co45, eo45⟩ := Kd.R_slice HO_3.out
        subst eo45
        go_wp2_with (first | ((with_reducible refine gate_callee (f := 97) rfl ?_); refine goesA (some 47) Try.func97 #[.pointer (some ⟨g, 0, none⟩), .int .i64 2] ?_; (with_reducible refine (Zax.calls g s0_0 x1001_2 x1002_2 2 t150 t151 t152 w0 _ ?side1 ?side2 A39.out).mono ?_); (case side1 => exact IsS68.at HI0); (case side2 => exact atB HB); rintro e w46 ⟨rfl, hi, hb, hk⟩; refine ⟨_, rfl, ?_⟩; replace HO_3 := IsS68.keepR HI0 HO_3 hk; replace HK := upK HK hk; replace HB := Aside0.mk (hb); replace HI0 := Aside0.mk (hi)))
        go_ret
        exact ⟨_, eqr, atR HO_3, IsS68.at HI0, atB HB, atK HK⟩
       rw [if_pos c40] at H
       have c40b0 := decide_eq_true c40
       clear c40
       obtain ⟨c41, H⟩ := in0_ H
       have LMc41 := Aside0.mk c41
       clear c41
       obtain ⟨y153, hy153⟩ : ∃ y_ : List Int, y_ = (x3_2 ++ [0]) := ⟨_, rfl⟩
       replace H : (Zag.l1 k2 y153 s0_0 t151 t152) = some (r1, r2, r3) := by first | (rw [hy153]; with_reducible exact H) | (have H2_ := (Option.bind_some _ _).symm.trans H; rw [hy153]; with_reducible exact H2_) | (have H2_ := (Option.bind_some _ _).symm.trans H; with_reducible exact H2_) | with_reducible exact H | (rw [hy153]; exact H) | exact H
       have Ny153 := Aside0.mk hy153
       clear hy153
       have H' := Aside0.mk H
       clear H
       obtain ⟨Ao42, co42, eo42⟩ := Kd.R_slice HO_3.out
       subst eo42
       go_wp2_with (first | ((with_reducible refine gate_callee (f := 97) rfl ?_); refine goesA (some 47) Try.func97 #[.pointer (some ⟨g, 0, none⟩), .int .i64 2] ?_; (with_reducible refine (Zax.calls g s0_0 x1001_2 x1002_2 2 t150 t151 t152 w0 _ ?side1 ?side2 A39.out).mono ?_); (case side1 => exact IsS68.at HI0); (case side2 => exact atB HB); rintro e w43 ⟨rfl, hi, hb, hk⟩; refine ⟨_, rfl, ?_⟩; replace HO_3 := IsS68.keepR HI0 HO_3 hk; replace HK := upK HK hk; replace HB := Aside0.mk (hb); replace HI0 := Aside0.mk (hi)) | ((with_reducible refine gate_builtin (b := .append) (xs := #[.tmp 50, .tmp 51]) rfl ?_); at_builtin; refine Kd.R_append (Kd.int .i64) w.heap.size rfl (.tmp 50) (.tmp 51) 24 3 (.int .i64 0) 8 rfl Try.underlying24 info3 rfl (by decide) (by omega) (.slice Ao42 x3_2.length co42) x3_2 0 [.int .i64 0] (fun _ => True) (fun _ => False) rfl rfl ?aP (fun _ hk => hk.elim) ?aF ?aO (Below.refl _ _) ?aS ?aL ?_; (case aP => exact rfl); (case aF => exact (fun _ _ => trivial)); (case aO => exact (atR HO_3)); (case aS => exact (szK HK)); (case aL => have := LMc41.out; omega); intro v154 w44 ho hb hg hat; rw [← Ny153.out] at ho; have HO155 := Aside0.mk (ho); replace HI0 := Aside0.mk (IsS68.grown (IsS68.at HI0) hg (IsS68.own_ne HI0.out HO_3.out (by decide))); replace HB := Aside0.mk (below_weaken (atB HB) HL.out hb); replace HK := Aside0.mk (KeepBut.trans (atK HK) (KeepBut.of_grown hg g) (Kd.R_base2 HO_3.out)); clear HO_3; clear ho hb hg hat))
       go_roundg k2
       case measure => have := HK1.out; have := HK2.out; omega
       case rel => exact ⟨(y153), (t151), (t152), H', ⟨by have := HK1.out; have := HK2.out; omega⟩, ⟨atR HO155⟩, ⟨IsS68.at HI0⟩, ⟨atK HK⟩, ⟨atB HB⟩⟩
noncomputable def Zag.L0 (x3 : List Int) (x4 : Int) (x1000 : List Int) (x1001 : Int) (x1002 : Int) : Option (List Int × Int × Int) := lim fun k => Zag.l0 k x3 x4 x1000 x1001 x1002
theorem Zag.L0_lim (x3 : List Int) (x4 : Int) (x1000 : List Int) (x1001 : Int) (x1002 : Int) : Lim (fun k => Zag.l0 k x3 x4 x1000 x1001 x1002) (Zag.L0 x3 x4 x1000 x1001 x1002) := Lim.of fun k => (Zag.mono_l k).1 x3 x4 x1000 x1001 x1002
noncomputable def Zag.L1 (x3 : List Int) (x1000 : List Int) (x1001 : Int) (x1002 : Int) : Option (List Int × Int × Int) := lim fun k => Zag.l1 k x3 x1000 x1001 x1002
theorem Zag.L1_lim (x3 : List Int) (x1000 : List Int) (x1001 : Int) (x1002 : Int) : Lim (fun k => Zag.l1 k x3 x1000 x1001 x1002) (Zag.L1 x3 x1000 x1001 x1002) := Lim.of fun k => (Zag.mono_l k).2 x3 x1000 x1001 x1002
noncomputable def Zag.F (s0_0 : List Int) (s0_1 : Int) (s0_2 : Int) : Option (List Int × Int × Int) := lim fun k => Zag.f k s0_0 s0_1 s0_2
theorem Zag.F_lim (s0_0 : List Int) (s0_1 : Int) (s0_2 : Int) : Lim (fun k => Zag.f k s0_0 s0_1 s0_2) (Zag.F s0_0 s0_1 s0_2) := Lim.of fun k => Zag.mono s0_0 s0_1 s0_2 k
theorem Zag.L0_eq (x3 : List Int) (x4 : Int) (x1000 : List Int) (x1001 : Int) (x1002 : Int) : Zag.L0 x3 x4 x1000 x1001 x1002 = (if x4 > 0 then ((Zbd.f x1000 x1001 x1002 3).bind fun bt125 => (if bt125.1 = true then (if x3.length < 17592186044416 then (Zag.L0 (x3 ++ [wrap64 ((x3.length : Int) - 1)]) (wrap64 (x4 - 1)) x1000 bt125.2.1 bt125.2.2) else (none)) else ((Zax.f x1000 bt125.2.1 bt125.2.2 (x3.length : Int)).bind fun bt131 => (if x3.length < 17592186044416 then (Zag.L0 (x3 ++ [bt131.1]) (wrap64 (x4 - 1)) x1000 bt131.2.1 bt131.2.2) else (none))))) else ((Zax.f x1000 x1001 x1002 14).bind fun bt137 => (if bt137.1 = 0 then ((Zax.f x1000 bt137.2.1 bt137.2.2 (x3.length : Int)).bind fun bt140 => ((Zbp.f x1000 bt140.2.1 bt140.2.2 (([(-1), (-2), 0, 5, 4611686018427387904] : List Int))).bind fun bt146 => (if 0 ≤ bt140.1 then (if bt140.1 < (x3.length : Int) then (some ((x3.set (bt140.1 : Int).toNat bt146.1), bt146.2.1, bt146.2.2)) else (none)) else (none)))) else (if bt137.1 = 1 then (some (([] : List Int), bt137.2.1, bt137.2.2)) else (if bt137.1 = 2 then (Zag.L1 x3 x1000 bt137.2.1 bt137.2.2) else (some (x3, bt137.2.1, bt137.2.2))))))) :=
 Lim.step (f := fun k => Zag.l0 (k + 1) x3 x4 x1000 x1001 x1002) (Zag.L0_lim x3 x4 x1000 x1001 x1002) (fun _ => rfl) (by
  simp only [Zag.l0]
  repeat' (first | (with_reducible first | exact Lim.const _ | exact Zag.L0_lim _ _ _ _ _ | exact Zag.L1_lim _ _ _ _ | refine Lim.ite ?_ ?_ | refine Lim.bind ?_ (fun _ => ?_))))
theorem Zag.L1_eq (x3 : List Int) (x1000 : List Int) (x1001 : Int) (x1002 : Int) : Zag.L1 x3 x1000 x1001 x1002 = ((Zax.f x1000 x1001 x1002 2).bind fun bt150 => (if (x3.length : Int) < (wrap64 (9 + bt150.1)) then (if x3.length < 17592186044416 then (Zag.L1 (x3 ++ [0]) x1000 bt150.2.1 bt150.2.2) else (none)) else (some (x3, bt150.2.1, bt150.2.2)))) :=
 Lim.step (f := fun k => Zag.l1 (k + 1) x3 x1000 x1001 x1002) (Zag.L1_lim x3 x1000 x1001 x1002) (fun _ => rfl) (by
  simp only [Zag.l1]
  repeat' (first | (with_reducible first | exact Lim.const _ | exact Zag.L1_lim _ _ _ _ | refine Lim.ite ?_ ?_ | refine Lim.bind ?_ (fun _ => ?_))))
theorem Zag.F_eq (s0_0 : List Int) (s0_1 : Int) (s0_2 : Int) : Zag.F s0_0 s0_1 s0_2 = ((Zax.f s0_0 s0_1 s0_2 7).bind fun bt122 => (Zag.L0 (([(-1)] : List Int)) bt122.1 s0_0 bt122.2.1 bt122.2.2)) :=
 Lim.unique (Zag.F_lim s0_0 s0_1 s0_2) (by
  unfold Zag.f
  repeat' (first | (with_reducible first | exact Lim.const _ | exact Zag.L0_lim _ _ _ _ _ | refine Lim.ite ?_ ?_ | refine Lim.bind ?_ (fun _ => ?_))))
def Zba.f (k : Nat) (l0 : List Int) : Option (List Int) := (Zag.f k l0 0 0).bind fun bt314 => (if (bt314.1.length : Int) > 7 then ((Zbd.f l0 bt314.2.1 bt314.2.2 8).bind fun bt319 => (if bt319.1 = true then (some bt314.1) else (if 7 ≤ (bt314.1.length : Int) then (some (bt314.1.take (7 : Int).toNat)) else (none)))) else (some bt314.1))
theorem Zba.mono : ∀ a0 k, LeO (Zba.f k a0) (Zba.f (k + 1) a0) := by
 intro a0 k
 unfold Zba.f
 repeat' (first | (with_reducible first | exact Zag.mono _ _ _ _ | exact LeO.refl _ | exact LeO.none _ | refine LeO.ite ?_ ?_ | refine LeO.bind ?_ (fun _ => ?_)) | exact Zag.mono _ _ _ _ | exact LeO.none _ | refine LeO.ite ?_ ?_ | refine LeO.bind ?_ (fun _ => ?_))
theorem Zba.calls (k : Nat) (A0 : Option Addr) (c0 : Nat) (l0 : List Int) (r : List Int) (w : World) (hr0 : Kd.C (Kd.int .u8) w A0 l0.length l0) (hc0 : l0.length ≤ c0) (h : Zba.f k l0 = some r) :
  Calls Try.prog 25 #[.slice A0 l0.length c0] w fun e w' => ∃ v0_ : Value, e = .returned (v0_) ∧ Kd.R (Kd.int .i64) 3 w' w.heap.size (fun _ => True) v0_ r ∧ Below w.heap.size w w' := by
 have hu68 := Try.underlying68
 have HR0 := Aside0.mk hr0
 have HC0 := Aside0.mk hc0
 clear hr0 hc0
 have HB := Aside0.mk (Below.refl w.heap.size w)
 have H := h
 unfold Zba.f at H
 clear h
 replace H := Option.bind_eq_some_iff.mp H
 obtain ⟨⟨t314, t317, t318⟩, A20, H⟩ := H
 replace H : (if (t314.length : Int) > 7 then ((Zbd.f l0 t317 t318 8).bind fun bt319 => (if bt319.1 = true then (some t314) else (if 7 ≤ (t314.length : Int) then (some (t314.take (7 : Int).toNat)) else (none)))) else (some t314)) = some r := H
 have A2 := Aside0.mk A20
 clear A20
 by_cases c3 : (t314.length : Int) > 7
 rotate_left
 ·rw [if_neg c3] at H
  have c3b0 := decide_eq_false c3
  have c3b1 : decide (7 < t314.length) = false := decide_eq_false (by omega)
  clear c3
  obtain rfl := Option.some.inj H
  go_enter Try.func25, Try.ntmps25
  go_wp2_with (first | ((with_reducible refine gate_dst (N := 7) rfl ?_); refine box_event ?hg (N := 7) ?hd (cs := #[.slice A0 l0.length c0, .int .i64 0, .int .u64 0]) (t := 68) ?hr ?_; (case hd => rfl); (case hg => rfl); (case hr => first | (go_simp; done) | (go_simp; rfl)); intro gb313 hg w16 hbox hb; have HI313 := Aside0.mk ((⟨_, _, hbox, (by rw [hg]; exact (szB HB) : w.heap.size ≤ gb313), HR0.out⟩ : IsS68 w w16 gb313 l0 0 0)); replace HB := upB HB hb; clear hb hbox hg) | ((with_reducible refine gate_callee (f := 91) rfl ?_); refine goesA (some 9) Try.func91 #[.pointer (some ⟨gb313, 0, none⟩)] ?_; (with_reducible refine (Zag.calls k gb313 l0 0 0 t314 t317 t318 w _ ?side1 ?side2 A2.out).mono ?_); (case side1 => exact IsS68.at HI313); (case side2 => exact atB HB); rintro e w17 ⟨v315, rfl, ho0, hi, hb, hk⟩; refine ⟨_, rfl, ?_⟩; have HO316 := lowR ho0 HB; replace HB := Aside0.mk (hb); replace HI313 := Aside0.mk (hi); obtain ⟨Ao18, co18, eo18⟩ := Kd.R_slice HO316.out; subst eo18))
  go_ret
  exact ⟨_, eqr, atR HO316, atB HB⟩
 rw [if_pos c3] at H
 have c3b0 := decide_eq_true c3
 have c3b1 : decide (7 < t314.length) = true := decide_eq_true (by omega)
 clear c3
 replace H := Option.bind_eq_some_iff.mp H
 obtain ⟨⟨t319, t320, t321⟩, A40, H⟩ := H
 replace H : (if t319 = true then (some t314) else (if 7 ≤ (t314.length : Int) then (some (t314.take (7 : Int).toNat)) else (none))) = some r := H
 have A4 := Aside0.mk A40
 clear A40
 by_cases c5 : t319 = true
 ·subst c5
  replace H := it_ H
  obtain rfl := Option.some.inj H
  go_enter Try.func25, Try.ntmps25
  go_wp2_with (first | ((with_reducible refine gate_dst (N := 7) rfl ?_); refine box_event ?hg (N := 7) ?hd (cs := #[.slice A0 l0.length c0, .int .i64 0, .int .u64 0]) (t := 68) ?hr ?_; (case hd => rfl); (case hg => rfl); (case hr => first | (go_simp; done) | (go_simp; rfl)); intro gb313 hg w6 hbox hb; have HI313 := Aside0.mk ((⟨_, _, hbox, (by rw [hg]; exact (szB HB) : w.heap.size ≤ gb313), HR0.out⟩ : IsS68 w w6 gb313 l0 0 0)); replace HB := upB HB hb; clear hb hbox hg) | ((with_reducible refine gate_callee (f := 91) rfl ?_); refine goesA (some 9) Try.func91 #[.pointer (some ⟨gb313, 0, none⟩)] ?_; (with_reducible refine (Zag.calls k gb313 l0 0 0 t314 t317 t318 w _ ?side1 ?side2 A2.out).mono ?_); (case side1 => exact IsS68.at HI313); (case side2 => exact atB HB); rintro e w7 ⟨v315, rfl, ho0, hi, hb, hk⟩; refine ⟨_, rfl, ?_⟩; have HO316 := lowR ho0 HB; replace HB := Aside0.mk (hb); replace HI313 := Aside0.mk (hi); obtain ⟨Ao8, co8, eo8⟩ := Kd.R_slice HO316.out; subst eo8) | (go_at_call 92; (with_reducible refine (Zbd.calls gb313 l0 t317 t318 8 true t320 t321 w _ ?side1 ?side2 A4.out).mono ?_); (case side1 => exact IsS68.at HI313); (case side2 => exact atB HB); rintro e w9 ⟨rfl, hi, hb, hk⟩; replace HO316 := IsS68.keepR HI313 HO316 hk; replace HB := Aside0.mk (hb); replace HI313 := Aside0.mk (hi)))
  go_ret
  exact ⟨_, eqr, atR HO316, atB HB⟩
 replace c5 := Bool.eq_false_iff.mpr c5
 subst c5
 replace H := if_ H
 obtain ⟨c10b0, c10b1, H⟩ := in2_ H
 obtain ⟨y322, hy322⟩ : ∃ y_ : List Int, y_ = (t314.take (7 : Int).toNat) := ⟨_, rfl⟩
 replace H : (some y322) = some r := by first | (rw [hy322]; with_reducible exact H) | (have H2_ := (Option.bind_some _ _).symm.trans H; rw [hy322]; with_reducible exact H2_) | (have H2_ := (Option.bind_some _ _).symm.trans H; with_reducible exact H2_) | with_reducible exact H | (rw [hy322]; exact H) | exact H
 have Ny322 := Aside0.mk hy322
 clear hy322
 obtain rfl := Option.some.inj H
 go_enter Try.func25, Try.ntmps25
 go_wp2_with (first | ((with_reducible refine gate_dst (N := 7) rfl ?_); refine box_event ?hg (N := 7) ?hd (cs := #[.slice A0 l0.length c0, .int .i64 0, .int .u64 0]) (t := 68) ?hr ?_; (case hd => rfl); (case hg => rfl); (case hr => first | (go_simp; done) | (go_simp; rfl)); intro gb313 hg w11 hbox hb; have HI313 := Aside0.mk ((⟨_, _, hbox, (by rw [hg]; exact (szB HB) : w.heap.size ≤ gb313), HR0.out⟩ : IsS68 w w11 gb313 l0 0 0)); replace HB := upB HB hb; clear hb hbox hg) | ((with_reducible refine gate_callee (f := 91) rfl ?_); refine goesA (some 9) Try.func91 #[.pointer (some ⟨gb313, 0, none⟩)] ?_; (with_reducible refine (Zag.calls k gb313 l0 0 0 t314 t317 t318 w _ ?side1 ?side2 A2.out).mono ?_); (case side1 => exact IsS68.at HI313); (case side2 => exact atB HB); rintro e w12 ⟨v315, rfl, ho0, hi, hb, hk⟩; refine ⟨_, rfl, ?_⟩; have HO316 := lowR ho0 HB; replace HB := Aside0.mk (hb); replace HI313 := Aside0.mk (hi); obtain ⟨Ao13, co13, eo13⟩ := Kd.R_slice HO316.out; subst eo13) | (go_at_call 92; (with_reducible refine (Zbd.calls gb313 l0 t317 t318 8 false t320 t321 w _ ?side1 ?side2 A4.out).mono ?_); (case side1 => exact IsS68.at HI313); (case side2 => exact atB HB); rintro e w14 ⟨rfl, hi, hb, hk⟩; replace HO316 := IsS68.keepR HI313 HO316 hk; replace HB := Aside0.mk (hb); replace HI313 := Aside0.mk (hi); have q15 : (7 : Int) ≤ ((t314.length : Int) : Int) := ofd; obtain ⟨i015, hi015, _, hsz15, _⟩ := info_parts info3; have hcut15 := cut_to (P := Try.prog) 24 3 .i64 Try.underlying24 hi015 Ao13 t314.length co13 7 (by omega) q15 (Kd.R_reads' HO316.out).2.1; have hr15 := Kd.R_take (m := (7 : Int).toNat) HO316.out (by omega); have hy15 : y322.length = (7 : Int).toNat := (by rw [Ny322.out, List.length_take]; omega); rw [← Ny322.out] at hr15; rw [← hy15] at hr15 hcut15; clear hy15 hi015 hsz15 HO316; have HO324 := Aside0.mk hr15; clear hr15; replace q15 := eq_true q15))
 go_ret
 exact ⟨_, eqr, atR HO324, atB HB⟩
noncomputable def Zba.F (l0 : List Int) : Option (List Int) := lim fun k => Zba.f k l0
theorem Zba.F_lim (l0 : List Int) : Lim (fun k => Zba.f k l0) (Zba.F l0) := Lim.of fun k => Zba.mono l0 k
theorem Zba.F_eq (l0 : List Int) : Zba.F l0 = ((Zag.F l0 0 0).bind fun bt314 => (if (bt314.1.length : Int) > 7 then ((Zbd.f l0 bt314.2.1 bt314.2.2 8).bind fun bt319 => (if bt319.1 = true then (some bt314.1) else (if 7 ≤ (bt314.1.length : Int) then (some (bt314.1.take (7 : Int).toNat)) else (none)))) else (some bt314.1))) :=
 Lim.unique (Zba.F_lim l0) (by
  unfold Zba.f
  repeat' (first | (with_reducible first | exact Lim.const _ | exact Zag.F_lim _ _ _ | refine Lim.ite ?_ ?_ | refine Lim.bind ?_ (fun _ => ?_))))
mutual
def Zac.l0 : Nat → Int → List Int → Int → List Int → Int → Int → Option (List Int × Int × Int)
 | 0, _, _, _, _, _, _ => none
 | k + 1, x1, x5, x6, x1000, x1001, x1002 => if x6 < x1 then (Zac.j1 k x1 x5 x6 (decide (x6 < 12)) x1000 x1001 x1002) else (Zac.j1 k x1 x5 x6 false x1000 x1001 x1002)
def Zac.j1 : Nat → Int → List Int → Int → Bool → List Int → Int → Int → Option (List Int × Int × Int)
 | 0, _, _, _, _, _, _, _ => none
 | k + 1, x1, x5, x6, x15, x1000, x1001, x1002 => if x15 = true then ((Zax.f x1000 x1001 x1002 (wrap64 ((x5.length : Int) + 1))).bind fun bt163 => (if 0 ≤ bt163.1 then (if bt163.1 ≤ (x5.length : Int) then ((Zbu.f (x5.take (bt163.1 : Int).toNat)).bind fun t170 => (if t170.length < 17592186044416 then ((some (t170 ++ [x6] : List Int)).bind fun y173 => ((some (x5.drop (bt163.1 : Int).toNat : List Int)).bind fun y176 => (if y173.length + y176.length < 17592186044416 then (Zac.l0 k x1 (y173 ++ y176) (wrap64 (x6 + 1)) x1000 bt163.2.1 bt163.2.2) else (none)))) else (none))) else (none)) else (none))) else ((Zbd.f x1000 x1001 x1002 12).bind fun bt183 => (if bt183.1 = true then ((Zbp.f x1000 bt183.2.1 bt183.2.2 (([(-1), 0, x1] : List Int))).bind fun bt189 => (if x5.length < 17592186044416 then (some ((x5 ++ [bt189.1]), bt189.2.1, bt189.2.2)) else (none))) else (some (x5, bt183.2.1, bt183.2.2))))
end
def Zac.f (k : Nat) (s0_0 : List Int) (s0_1 : Int) (s0_2 : Int) (a1 : Int) : Option (List Int × Int × Int) := Zac.l0 k a1 ([] : List Int) 0 s0_0 s0_1 s0_2
theorem Zac.mono_l : ∀ k, (∀ y0 y1 y2 y3 y4 y5, LeO (Zac.l0 k y0 y1 y2 y3 y4 y5) (Zac.l0 (k + 1) y0 y1 y2 y3 y4 y5)) ∧ (∀ y0 y1 y2 y3 y4 y5 y6, LeO (Zac.j1 k y0 y1 y2 y3 y4 y5 y6) (Zac.j1 (k + 1) y0 y1 y2 y3 y4 y5 y6))
 | 0 => ⟨fun _ _ _ _ _ _ r h => by simp [Zac.l0] at h, fun _ _ _ _ _ _ _ r h => by simp [Zac.j1] at h⟩
 | k + 1 => by
  obtain ⟨ih0, ih1⟩ := Zac.mono_l k
  refine ⟨?_, ?_⟩
  ·intro y0 y1 y2 y3 y4 y5
   unfold Zac.l0
   repeat' (first | (with_reducible first | exact ih1 _ _ _ _ _ _ _ | exact LeO.refl _ | exact LeO.none _ | refine LeO.ite ?_ ?_ | refine LeO.bind ?_ (fun _ => ?_)) | exact ih1 _ _ _ _ _ _ _ | exact LeO.none _ | refine LeO.ite ?_ ?_ | refine LeO.bind ?_ (fun _ => ?_))
  ·intro y0 y1 y2 y3 y4 y5 y6
   unfold Zac.j1
   repeat' (first | (with_reducible first | exact ih0 _ _ _ _ _ _ | exact LeO.refl _ | exact LeO.none _ | refine LeO.ite ?_ ?_ | refine LeO.bind ?_ (fun _ => ?_)) | exact ih0 _ _ _ _ _ _ | exact LeO.none _ | refine LeO.ite ?_ ?_ | refine LeO.bind ?_ (fun _ => ?_))
theorem Zac.mono : ∀ a0 a1 a2 a3 k, LeO (Zac.f k a0 a1 a2 a3) (Zac.f (k + 1) a0 a1 a2 a3) := by
 intro a0 a1 a2 a3 k
 obtain ⟨ih0, ih1⟩ := Zac.mono_l k
 unfold Zac.f
 repeat' (first | (with_reducible first | exact ih0 _ _ _ _ _ _ | exact LeO.refl _ | exact LeO.none _ | refine LeO.ite ?_ ?_ | refine LeO.bind ?_ (fun _ => ?_)) | exact ih0 _ _ _ _ _ _ | exact LeO.none _ | refine LeO.ite ?_ ?_ | refine LeO.bind ?_ (fun _ => ?_))
theorem Zac.calls (k : Nat) (g : Nat) (s0_0 : List Int) (s0_1 : Int) (s0_2 : Int) (a1 : Int) (r1 : List Int) (r2 : Int) (r3 : Int) (w0 w : World) (hI : IsS68 w0 w g s0_0 s0_1 s0_2) (hB : Below w0.heap.size w0 w) (h : Zac.f k s0_0 s0_1 s0_2 a1 = some (r1, r2, r3)) :
  Calls Try.prog 157 #[.pointer (some ⟨g, 0, none⟩), .int .i64 a1] w fun e w' => ∃ v0_ : Value, e = .returned (v0_) ∧ Kd.R (Kd.int .i64) 3 w' w.heap.size (fun _ => True) v0_ r1 ∧ IsS68 w0 w' g s0_0 r2 r3 ∧ Below w0.heap.size w0 w' ∧ KeepBut w w' g none := by
 have HI0 := Aside0.mk hI
 have HK := Aside0.mk (KeepBut.refl w g none)
 have HL := Aside0.mk hB.size
 clear hI
 have HW0 := Aside0.mk hB.size
 have HB := Aside0.mk hB
 clear hB
 have H := h
 unfold Zac.f at H
 clear h
 have H' := Aside0.mk H
 clear H
 go_enter Try.func157, Try.ntmps157
 go_wp2
 go_loopg [5, 6] k (fun kq v5 v6 w' => ∃ (x5_1 : List Int) (x6_1 : Int) (x1001_1 : Int) (x1002_1 : Int), v6 = .int .i64 x6_1 ∧ Aside0 (Zac.l0 kq a1 x5_1 x6_1 s0_0 x1001_1 x1002_1 = some (r1, r2, r3)) ∧ Aside0 (kq ≤ k) ∧ Aside0 (Kd.R (Kd.int .i64) 3 w' w.heap.size (fun _ => True) v5 x5_1) ∧ Aside0 (IsS68 w0 w' g s0_0 x1001_1 x1002_1) ∧ Aside0 (KeepBut w w' g none) ∧ Aside0 (Below w0.heap.size w0 w'))
 case atStart => exact ⟨(([] : List Int)), (0), (s0_1), (s0_2), eqd, H', ⟨Nat.le_refl _⟩, ⟨by first | exact Kd.R_nil _ _ _ _ _ | exact Kd.N_nil _ _ _ _ _ | exact Kd.V_nil _ _ _ _ _ | exact Kd.Q_nil _ _ _ _ _ | exact Kd.S_nil _ _ _ _ _⟩, ⟨IsS68.at HI0⟩, ⟨atK HK⟩, ⟨atB HB⟩⟩
 case round =>
  clear H'
  obtain ⟨x5_1, x6_1, x1001_1, x1002_1, rfl, HA, HK1, HO_5, HI0, HK, HB⟩ := hrel
  cases gk with
  | zero => exact absurd HA.out (by simp [Zac.l0])
  | succ k1 =>
   have H := HA.out
   clear HA
   simp only [Zac.l0] at H
   have HC3 := Aside0.mk H
   clear H
   go_upto_region 3 with (fail)
   go_cut [15] (fun v15 wc => ∃ (kq : Nat) (x15_2 : Bool), v15 = .bool x15_2 ∧ Aside0 (Zac.j1 kq a1 x5_1 x6_1 x15_2 s0_0 x1001_1 x1002_1 = some (r1, r2, r3)) ∧ Aside0 (kq ≤ k1) ∧ Aside0 (Kd.R (Kd.int .i64) 3 wc w.heap.size (fun _ => True) u5 x5_1) ∧ Aside0 (IsS68 w0 wc g s0_0 x1001_1 x1002_1) ∧ Aside0 (KeepBut w wc g none) ∧ Aside0 (Below w0.heap.size w0 wc))
   case first =>
    have H := HC3.out
    clear HC3
    by_cases c4 : x6_1 < a1
    rotate_left
    ·rw [if_neg c4] at H
     have c4b0 := decide_eq_false c4
     clear c4
     (first | rw [c4b0] | (simp only [i64_w, i32_w]; rw [c4b0]) | skip)
     have H' := Aside0.mk H
     clear H
     go_wp2
     go_meet
     case rel => exact ⟨_, (false), eqd, H', ⟨by have := HK1.out; first | omega | exact Nat.le_refl _⟩, ⟨atR HO_5⟩, ⟨IsS68.at HI0⟩, ⟨atK HK⟩, ⟨atB HB⟩⟩
    rw [if_pos c4] at H
    have c4b0 := decide_eq_true c4
    clear c4
    (first | rw [c4b0] | (simp only [i64_w, i32_w]; rw [c4b0]) | skip)
    have H' := Aside0.mk H
    clear H
    go_wp2
    go_meet
    case rel => exact ⟨_, (decide (x6_1 < 12)), eqd, H', ⟨by have := HK1.out; first | omega | exact Nat.le_refl _⟩, ⟨atR HO_5⟩, ⟨IsS68.at HI0⟩, ⟨atK HK⟩, ⟨atB HB⟩⟩
   case rest =>
    clear HC3
    obtain ⟨kq, x15_2, rfl, HA, HJ2, HO_5, HI0, HK, HB⟩ := hcut
    cases kq with
    | zero => exact absurd HA.out (by simp [Zac.j1])
    | succ kj2 =>
     have H := HA.out
     clear HA
     simp only [Zac.j1] at H
     by_cases c5 : x15_2 = true
     ·subst c5
      replace H := it_ H
      replace H := Option.bind_eq_some_iff.mp H
      obtain ⟨⟨t163, t164, t165⟩, A60, H⟩ := H
      replace H : (if 0 ≤ t163 then (if t163 ≤ (x5_1.length : Int) then ((Zbu.f (x5_1.take (t163 : Int).toNat)).bind fun t170 => (if t170.length < 17592186044416 then ((some (t170 ++ [x6_1] : List Int)).bind fun y173 => ((some (x5_1.drop (t163 : Int).toNat : List Int)).bind fun y176 => (if y173.length + y176.length < 17592186044416 then (Zac.l0 kj2 a1 (y173 ++ y176) (wrap64 (x6_1 + 1)) s0_0 t164 t165) else (none)))) else (none))) else (none)) else (none)) = some (r1, r2, r3) := H
      have A6 := Aside0.mk A60
      clear A60
      obtain ⟨c7b0, c7b1, H⟩ := in2_ H
      obtain ⟨c8b0, c8b1, H⟩ := in2_ H
      obtain ⟨y166, hy166⟩ : ∃ y_ : List Int, y_ = (x5_1.take (t163 : Int).toNat) := ⟨_, rfl⟩
      replace H : ((Zbu.f y166).bind fun t170 => (if t170.length < 17592186044416 then ((some (t170 ++ [x6_1] : List Int)).bind fun y173 => ((some (x5_1.drop (t163 : Int).toNat : List Int)).bind fun y176 => (if y173.length + y176.length < 17592186044416 then (Zac.l0 kj2 a1 (y173 ++ y176) (wrap64 (x6_1 + 1)) s0_0 t164 t165) else (none)))) else (none))) = some (r1, r2, r3) := by first | (rw [hy166]; with_reducible exact H) | (have H2_ := (Option.bind_some _ _).symm.trans H; rw [hy166]; with_reducible exact H2_) | (have H2_ := (Option.bind_some _ _).symm.trans H; with_reducible exact H2_) | with_reducible exact H | (rw [hy166]; exact H) | exact H
      have Ny166 := Aside0.mk hy166
      clear hy166
      replace H := bs_ H
      obtain ⟨t170, A9, H⟩ := H
      (try dsimp only at H)
      obtain ⟨c10, H⟩ := in0_ H
      have LMc10 := Aside0.mk c10
      clear c10
      obtain ⟨y173, hy173⟩ : ∃ y_ : List Int, y_ = (t170 ++ [x6_1]) := ⟨_, rfl⟩
      replace H : ((some (x5_1.drop (t163 : Int).toNat : List Int)).bind fun y176 => (if y173.length + y176.length < 17592186044416 then (Zac.l0 kj2 a1 (y173 ++ y176) (wrap64 (x6_1 + 1)) s0_0 t164 t165) else (none))) = some (r1, r2, r3) := by first | (rw [hy173]; with_reducible exact H) | (have H2_ := (Option.bind_some _ _).symm.trans H; rw [hy173]; with_reducible exact H2_) | (have H2_ := (Option.bind_some _ _).symm.trans H; with_reducible exact H2_) | with_reducible exact H | (rw [hy173]; exact H) | exact H
      have Ny173 := Aside0.mk hy173
      clear hy173
      have c11b0 := eq_true (of_decide_eq_true (by first | (with_reducible assumption) | assumption) : 0 ≤ t163)
      have c12b0 := eq_true (of_decide_eq_true (by first | (with_reducible assumption) | assumption) : t163 ≤ (x5_1.length : Int))
      obtain ⟨y176, hy176⟩ : ∃ y_ : List Int, y_ = (x5_1.drop (t163 : Int).toNat) := ⟨_, rfl⟩
      replace H : (if y173.length + y176.length < 17592186044416 then (Zac.l0 kj2 a1 (y173 ++ y176) (wrap64 (x6_1 + 1)) s0_0 t164 t165) else (none)) = some (r1, r2, r3) := by first | (rw [hy176]; with_reducible exact H) | (have H2_ := (Option.bind_some _ _).symm.trans H; rw [hy176]; with_reducible exact H2_) | (have H2_ := (Option.bind_some _ _).symm.trans H; with_reducible exact H2_) | with_reducible exact H | (rw [hy176]; exact H) | exact H
      have Ny176 := Aside0.mk hy176
      clear hy176
      obtain ⟨c13, H⟩ := in0_ H
      have LMc13 := Aside0.mk c13
      clear c13
      obtain ⟨y180, hy180⟩ : ∃ y_ : List Int, y_ = (y173 ++ y176) := ⟨_, rfl⟩
      replace H : (Zac.l0 kj2 a1 y180 (wrap64 (x6_1 + 1)) s0_0 t164 t165) = some (r1, r2, r3) := by first | (rw [hy180]; with_reducible exact H) | (have H2_ := (Option.bind_some _ _).symm.trans H; rw [hy180]; with_reducible exact H2_) | (have H2_ := (Option.bind_some _ _).symm.trans H; with_reducible exact H2_) | with_reducible exact H | (rw [hy180]; exact H) | exact H
      have Ny180 := Aside0.mk hy180
      clear hy180
      have H' := Aside0.mk H
      clear H
      obtain ⟨Ao14, co14, eo14⟩ := Kd.R_slice HO_5.out
      subst eo14
      go_wp2_with (first | ((with_reducible refine gate_callee (f := 97) rfl ?_); refine goesA (some 22) Try.func97 #[.pointer (some ⟨g, 0, none⟩), .int .i64 (wrap64 ((x5_1.length : Int) + 1))] ?_; (with_reducible refine (Zax.calls g s0_0 x1001_1 x1002_1 (wrap64 ((x5_1.length : Int) + 1)) t163 t164 t165 w0 _ ?side1 ?side2 A6.out).mono ?_); (case side1 => exact IsS68.at HI0); (case side2 => exact atB HB); rintro e w15 ⟨rfl, hi, hb, hk⟩; refine ⟨_, rfl, ?_⟩; replace HO_5 := IsS68.keepR HI0 HO_5 hk; replace HK := upK HK hk; replace HB := Aside0.mk (hb); replace HI0 := Aside0.mk (hi); have q16 : (t163 : Int) ≤ ((x5_1.length : Int) : Int) := ofd; obtain ⟨i016, hi016, _, hsz16, _⟩ := info_parts info3; have hroom16 : x5_1.length ≤ co14 := (Kd.R_reads' HO_5.out).2.1; have hC16 : Kd.C (Kd.int .i64) _ Ao14 x5_1.length x5_1 := (Kd.R_reads' HO_5.out).2.2; have hcut16 := cut_to (P := Try.prog) 24 3 .i64 Try.underlying24 hi016 Ao14 x5_1.length co14 t163 (of_decide_eq_true (by first | (with_reducible assumption) | assumption)) q16 hroom16; have hr16 := Kd.C_take (m := (t163 : Int).toNat) hC16 (by omega); have hy16 : y166.length = (t163 : Int).toNat := (by rw [Ny166.out, List.length_take]; omega); rw [← Ny166.out] at hr16; rw [← hy16] at hcut16; have HR169 := Aside0.mk hr16; have HC169 := Aside0.mk (show y166.length ≤ co14 from by omega); clear hr16 hC16 hroom16 hi016 hsz16; have KY16 := Aside0.mk hy16; clear hy16; have KL16 := Aside0.mk (show (t163 : Int).toNat ≤ x5_1.length from by omega); replace q16 := eq_true q16) | ((with_reducible refine gate_callee (f := 144) rfl ?_); refine goesA (some 26) Try.func144 #[.slice Ao14 y166.length co14] ?_; (with_reducible refine (Zbu.calls _ _ y166 t170 _ ?side1 ?side2 A9.out).mono ?_); (case side1 => exact atC HR169); (case side2 => exact HC169.out); rintro e w17 ⟨v171, rfl, ho0, hb⟩; refine ⟨_, rfl, ?_⟩; have HO172 := Aside0.mk (Kd.R_lower (Kd.R_new' ho0 (ltR HO_5)) (szK HK)); replace HO_5 := eldRR HO_5 ho0 hb; replace HI0 := IsS68.up HI0 hb; replace HR169 := upC HR169 hb; replace HK := upKB HK hb; replace HB := upB HB hb) | ((with_reducible refine gate_builtin (b := .append) (xs := #[.tmp 26, .tmp 28]) rfl ?_); at_builtin; refine Kd.R_append (Kd.int .i64) w.heap.size rfl (.tmp 26) (.tmp 28) 24 3 (.int .i64 0) 8 rfl Try.underlying24 info3 rfl (by decide) (by omega) v171 t170 x6_1 [.int .i64 x6_1] (fun k_ => some k_ ≠ (.slice Ao14 x5_1.length co14 : Value).ownBlock) (fun _ => False) rfl rfl ?aP (fun _ hk => hk.elim) ?aF ?aO (Below.refl _ _) ?aS ?aL ?_; (case aP => exact rfl); (case aF => exact (fun k_ hk => Kd.fresh' (ltR HO_5) k_ hk)); (case aO => exact (by (with_reducible repeat (first | apply Kd.R_alloc | apply Kd.R_drewN | apply Kd.R_drew)); exact Kd.R_mono HO172.out (fun _ hk => hk.2))); (case aS => exact (szK HK)); (case aL => have := LMc10.out; omega); intro v174 w18 ho hb hg hat; rw [← Ny173.out] at ho; have HO175 := Aside0.mk (ho); replace HI0 := Aside0.mk (IsS68.grown (IsS68.at HI0) hg (IsS68.own_ne HI0.out HO172.out (by decide))); replace HB := Aside0.mk (below_weaken (atB HB) HL.out hb); replace HK := Aside0.mk (KeepBut.trans (atK HK) (KeepBut.of_grown hg g) (Kd.R_base2 HO172.out)); replace HR169 := Aside0.mk ((show Kd.C (Kd.int .i64) w18 Ao14 y166.length y166 from by rw [Ny166.out]; exact Kd.C_take (m := (t163 : Int).toNat) ((Kd.R_reads' (Kd.R_after (ok := (fun _ => True)) (atR HO_5) hg hat)).2.2) KL16.out)); replace HO_5 := Aside0.mk (Kd.R_after (ok := (fun _ => True)) (atR HO_5) hg hat); clear HO172; clear ho hb hg hat; have q19 : (t163 : Int) ≤ ((x5_1.length : Int) : Int) := ofd; obtain ⟨i019, hi019, _, hsz19, _⟩ := info_parts info3; have hroom19 : x5_1.length ≤ co14 := (Kd.R_reads' HO_5.out).2.1; have hC19 : Kd.C (Kd.int .i64) _ Ao14 x5_1.length x5_1 := (Kd.R_reads' HO_5.out).2.2; have q019 : (0 : Int) ≤ (t163 : Int) := ofd; have hcut19 := cut_from (P := Try.prog) 24 3 .i64 Try.underlying24 hi019 1 hsz19 Ao14 x5_1.length co14 t163 q019 q19; have hr19 := Kd.C_drop (m := (t163 : Int).toNat) (c := co14) hC19 (by omega) hroom19; obtain ⟨A19, hA19⟩ : ∃ A1, A1 = (if co14 = (t163 : Int).toNat then Ao14 else (Ao14 : Option Addr).map (·.add ((t163 : Int).toNat * 1))) := ⟨_, rfl⟩; obtain ⟨c19, hc19⟩ : ∃ c1, c1 = co14 - (t163 : Int).toNat := ⟨_, rfl⟩; have hy19 : y176.length = x5_1.length - (t163 : Int).toNat := (by rw [Ny176.out, List.length_drop] <;> omega); rw [show (x5_1).drop (t163 : Int).toNat = y176 from Ny176.out.symm] at hr19; replace hr19 : Kd.C (Kd.int .i64) _ A19 y176.length y176 := (by rw [hA19]; exact hr19); rw [← hy19, ← hA19, ← hc19] at hcut19; have HR179 := Aside0.mk hr19; have HC179 := Aside0.mk (show y176.length ≤ c19 from by rw [hy19, hc19]; exact Nat.sub_le_sub_right hroom19 _); clear hr19 hC19 hroom19 hi019 hsz19 hc19; have KY19 := Aside0.mk hy19; have KA19 := Aside0.mk hA19; clear hy19 hA19; have KL19 := Aside0.mk (show (t163 : Int).toNat ≤ x5_1.length from by omega); replace q19 := eq_true q19) | ((with_reducible refine gate_builtin (b := .append) (xs := #[.tmp 30, .tmp 33]) rfl ?_); at_builtin; refine Kd.R_append_rows (Kd.int .i64) w.heap.size rfl (.tmp 30) (.tmp 33) 24 3 (.int .i64 0) 8 rfl Try.underlying24 info3 rfl (by decide) (by omega) v174 y173 y176 _ _ _ (fun k_ => some k_ ≠ (.slice Ao14 x5_1.length co14 : Value).ownBlock) (fun _ => False) rfl rfl ?aO ?aR (fun _ _ h => h) (fun _ h => h.elim) ?aF (Below.refl _ _) ?aS ?aL ?_; (case aR => exact atC HR179); (case aF => exact (fun k_ hk => Kd.fresh' (ltR HO_5) k_ hk)); (case aO => exact (atR HO175)); (case aS => exact (szK HK)); (case aL => have := LMc13.out; omega); intro v181 w20 ho hb hg hat; rw [← Ny180.out] at ho; have HO182 := Aside0.mk (ho); replace HI0 := Aside0.mk (IsS68.grown (IsS68.at HI0) hg (IsS68.own_ne HI0.out HO175.out (by decide))); replace HB := Aside0.mk (below_weaken (atB HB) HL.out hb); replace HK := Aside0.mk (KeepBut.trans (atK HK) (KeepBut.of_grown hg g) (Kd.R_base2 HO175.out)); replace HR169 := Aside0.mk ((show Kd.C (Kd.int .i64) w20 Ao14 y166.length y166 from by rw [Ny166.out]; exact Kd.C_take (m := (t163 : Int).toNat) ((Kd.R_reads' (Kd.R_after (ok := (fun _ => True)) (atR HO_5) hg hat)).2.2) KL16.out)); replace HR179 := Aside0.mk ((show Kd.C (Kd.int .i64) w20 A19 y176.length y176 from by rw [Ny176.out, KA19.out]; exact Kd.C_drop (m := (t163 : Int).toNat) (c := co14) ((Kd.R_reads' (Kd.R_after (ok := (fun _ => True)) (atR HO_5) hg hat)).2.2) KL19.out ((Kd.R_reads' (Kd.R_after (ok := (fun _ => True)) (atR HO_5) hg hat)).2.1))); replace HO_5 := Aside0.mk (Kd.R_after (ok := (fun _ => True)) (atR HO_5) hg hat); clear HO175; clear ho hb hg hat))
      go_roundg kj2
      case measure => have := HK1.out; have := HJ2.out; omega
      case rel => exact ⟨(y180), (wrap64 (x6_1 + 1)), (t164), (t165), eqd, H', ⟨by have := HK1.out; have := HJ2.out; omega⟩, ⟨by (with_reducible repeat (first | apply Kd.R_alloc | apply Kd.R_drewN | apply Kd.R_drew)); exact Kd.R_mono HO182.out (fun _ hk => trivial)⟩, ⟨IsS68.at HI0⟩, ⟨atK HK⟩, ⟨atB HB⟩⟩
     ·replace c5 := Bool.eq_false_iff.mpr c5
      subst c5
      replace H := if_ H
      replace H := Option.bind_eq_some_iff.mp H
      obtain ⟨⟨t183, t184, t185⟩, A210, H⟩ := H
      replace H : (if t183 = true then ((Zbp.f s0_0 t184 t185 (([(-1), 0, a1] : List Int))).bind fun bt189 => (if x5_1.length < 17592186044416 then (some ((x5_1 ++ [bt189.1]), bt189.2.1, bt189.2.2)) else (none))) else (some (x5_1, t184, t185))) = some (r1, r2, r3) := H
      have A21 := Aside0.mk A210
      clear A210
      by_cases c22 : t183 = true
      rotate_left
      ·replace c22 := Bool.eq_false_iff.mpr c22
       subst c22
       replace H := if_ H
       simp only [Option.some.injEq, Prod.mk.injEq] at H
       obtain ⟨rfl, rfl, rfl⟩ := H
       go_wp2_with (first | ((with_reducible refine gate_callee (f := 92) rfl ?_); refine goesA (some 36) Try.func92 #[.pointer (some ⟨g, 0, none⟩), .int .i64 12] ?_; (with_reducible refine (Zbd.calls g s0_0 x1001_1 x1002_1 12 false t184 t185 w0 _ ?side1 ?side2 A21.out).mono ?_); (case side1 => exact IsS68.at HI0); (case side2 => exact atB HB); rintro e w31 ⟨rfl, hi, hb, hk⟩; refine ⟨_, rfl, ?_⟩; replace HO_5 := IsS68.keepR HI0 HO_5 hk; replace HK := upK HK hk; replace HB := Aside0.mk (hb); replace HI0 := Aside0.mk (hi)))
       go_ret
       exact ⟨_, eqr, atR HO_5, IsS68.at HI0, atB HB, atK HK⟩
      subst c22
      replace H := it_ H
      obtain ⟨y186, hy186⟩ : ∃ y_ : List Int, y_ = (([(-1), 0, a1] : List Int)) := ⟨_, rfl⟩
      replace H : ((Zbp.f s0_0 t184 t185 y186).bind fun bt189 => (if x5_1.length < 17592186044416 then (some ((x5_1 ++ [bt189.1]), bt189.2.1, bt189.2.2)) else (none))) = some (r1, r2, r3) := by first | (rw [hy186]; with_reducible exact H) | (have H2_ := (Option.bind_some _ _).symm.trans H; rw [hy186]; with_reducible exact H2_) | (have H2_ := (Option.bind_some _ _).symm.trans H; with_reducible exact H2_) | with_reducible exact H | (rw [hy186]; exact H) | exact H
      have Ny186 := Aside0.mk hy186
      clear hy186
      replace H := Option.bind_eq_some_iff.mp H
      obtain ⟨⟨t189, t190, t191⟩, A230, H⟩ := H
      replace H : (if x5_1.length < 17592186044416 then (some ((x5_1 ++ [t189]), t190, t191)) else (none)) = some (r1, r2, r3) := H
      have A23 := Aside0.mk A230
      clear A230
      obtain ⟨c24, H⟩ := in0_ H
      have LMc24 := Aside0.mk c24
      clear c24
      obtain ⟨y192, hy192⟩ : ∃ y_ : List Int, y_ = (x5_1 ++ [t189]) := ⟨_, rfl⟩
      replace H : (some (y192, t190, t191)) = some (r1, r2, r3) := by first | (rw [hy192]; with_reducible exact H) | (have H2_ := (Option.bind_some _ _).symm.trans H; rw [hy192]; with_reducible exact H2_) | (have H2_ := (Option.bind_some _ _).symm.trans H; with_reducible exact H2_) | with_reducible exact H | (rw [hy192]; exact H) | exact H
      have Ny192 := Aside0.mk hy192
      clear hy192
      simp only [Option.some.injEq, Prod.mk.injEq] at H
      obtain ⟨rfl, rfl, rfl⟩ := H
      go_wp2_with (first | ((with_reducible refine gate_callee (f := 92) rfl ?_); refine goesA (some 36) Try.func92 #[.pointer (some ⟨g, 0, none⟩), .int .i64 12] ?_; (with_reducible refine (Zbd.calls g s0_0 x1001_1 x1002_1 12 true t184 t185 w0 _ ?side1 ?side2 A21.out).mono ?_); (case side1 => exact IsS68.at HI0); (case side2 => exact atB HB); rintro e w25 ⟨rfl, hi, hb, hk⟩; refine ⟨_, rfl, ?_⟩; replace HO_5 := IsS68.keepR HI0 HO_5 hk; replace HK := upK HK hk; replace HB := Aside0.mk (hb); replace HI0 := Aside0.mk (hi)) | ((with_reducible refine gate_dst (N := 40) rfl ?_); refine Kd.R_lit (Kd.int .i64) _ 3 ?hg (N := 40) ?hd (xs := ([(-1), 0, a1] : List Int)) (inner := [.int .i64 (-1), .int .i64 0, .int .i64 a1]) (ok := fun _ => True) (okp := fun _ => True) ?hr ?hp (fun _ hk => hk) trivial (Below.refl _ _) (Nat.le_refl _) (by simp) ?_; (case hd => rfl); (case hg => rfl); (case hr => first | (go_simp; done) | (go_simp; rfl)); (case hp => exact repsI _); intro v187 w26 ho27 hb hg_ hnew_; clear hg_ hnew_; (first | rw [← Ny186.out] at ho27 | (simp only [Int.reduceToNat] at ho27; rw [← Ny186.out] at ho27)); have HO188 := Aside0.mk (Kd.R_lower (Kd.R_new' ho27 (ltR HO_5)) (szK HK)); replace HO_5 := eldRR HO_5 ho27 hb; replace HI0 := IsS68.up HI0 hb; replace HK := upKB HK hb; replace HB := upB HB hb; clear hb ho27; obtain ⟨Ao28, co28, eo28⟩ := Kd.R_slice HO188.out; subst eo28) | ((with_reducible refine gate_callee (f := 109) rfl ?_); refine goesA (some 41) Try.func109 #[.pointer (some ⟨g, 0, none⟩), .slice Ao28 y186.length co28] ?_; (with_reducible refine (Zbp.calls g s0_0 t184 t185 _ _ y186 t189 t190 t191 w0 _ ?side1 ?side2 ?side3 ?side4 ?side5 A23.out).mono ?_); (case side1 => exact IsS68.at HI0); (case side2 => exact atB HB); (case side3 => exact atRC HO188); (case side4 => exact (Kd.R_reads' HO188.out).2.1); (case side5 => exact far_slice (IsS68.own_ne HI0.out HO188.out (by decide))); rintro e w29 ⟨rfl, hi, hb, hk⟩; refine ⟨_, rfl, ?_⟩; replace HO_5 := IsS68.keepR HI0 HO_5 hk; replace HO188 := IsS68.keepR HI0 HO188 hk; replace HK := upK HK hk; replace HB := Aside0.mk (hb); replace HI0 := Aside0.mk (hi)) | ((with_reducible refine gate_builtin (b := .append) (xs := #[.tmp 37, .tmp 42]) rfl ?_); at_builtin; refine Kd.R_append (Kd.int .i64) w.heap.size rfl (.tmp 37) (.tmp 42) 24 3 (.int .i64 0) 8 rfl Try.underlying24 info3 rfl (by decide) (by omega) u5 x5_1 t189 [.int .i64 t189] (fun k_ => some k_ ≠ (.slice Ao28 y186.length co28 : Value).ownBlock) (fun _ => False) rfl rfl ?aP (fun _ hk => hk.elim) ?aF ?aO (Below.refl _ _) ?aS ?aL ?_; (case aP => exact rfl); (case aF => exact (fun k_ hk => Kd.fresh' (ltR HO188) k_ hk)); (case aO => exact (by (with_reducible repeat (first | apply Kd.R_alloc | apply Kd.R_drewN | apply Kd.R_drew)); exact Kd.R_mono HO_5.out (fun _ hk => hk.2))); (case aS => exact (szK HK)); (case aL => have := LMc24.out; omega); intro v193 w30 ho hb hg hat; rw [← Ny192.out] at ho; have HO194 := Aside0.mk (ho); replace HI0 := Aside0.mk (IsS68.grown (IsS68.at HI0) hg (IsS68.own_ne HI0.out HO_5.out (by decide))); replace HO188 := Aside0.mk (Kd.R_after (ok := (fun _ => True)) (atR HO188) hg hat); replace HB := Aside0.mk (below_weaken (atB HB) HL.out hb); replace HK := Aside0.mk (KeepBut.trans (atK HK) (KeepBut.of_grown hg g) (Kd.R_base2 HO_5.out)); clear HO_5; clear ho hb hg hat))
      go_ret
      exact ⟨_, eqr, by (with_reducible repeat (first | apply Kd.R_alloc | apply Kd.R_drewN | apply Kd.R_drew)); exact Kd.R_mono HO194.out (fun _ hk => trivial), IsS68.at HI0, atB HB, atK HK⟩
noncomputable def Zac.L0 (x1 : Int) (x5 : List Int) (x6 : Int) (x1000 : List Int) (x1001 : Int) (x1002 : Int) : Option (List Int × Int × Int) := lim fun k => Zac.l0 k x1 x5 x6 x1000 x1001 x1002
theorem Zac.L0_lim (x1 : Int) (x5 : List Int) (x6 : Int) (x1000 : List Int) (x1001 : Int) (x1002 : Int) : Lim (fun k => Zac.l0 k x1 x5 x6 x1000 x1001 x1002) (Zac.L0 x1 x5 x6 x1000 x1001 x1002) := Lim.of fun k => (Zac.mono_l k).1 x1 x5 x6 x1000 x1001 x1002
noncomputable def Zac.J1 (x1 : Int) (x5 : List Int) (x6 : Int) (x15 : Bool) (x1000 : List Int) (x1001 : Int) (x1002 : Int) : Option (List Int × Int × Int) := lim fun k => Zac.j1 k x1 x5 x6 x15 x1000 x1001 x1002
theorem Zac.J1_lim (x1 : Int) (x5 : List Int) (x6 : Int) (x15 : Bool) (x1000 : List Int) (x1001 : Int) (x1002 : Int) : Lim (fun k => Zac.j1 k x1 x5 x6 x15 x1000 x1001 x1002) (Zac.J1 x1 x5 x6 x15 x1000 x1001 x1002) := Lim.of fun k => (Zac.mono_l k).2 x1 x5 x6 x15 x1000 x1001 x1002
noncomputable def Zac.F (s0_0 : List Int) (s0_1 : Int) (s0_2 : Int) (a1 : Int) : Option (List Int × Int × Int) := lim fun k => Zac.f k s0_0 s0_1 s0_2 a1
theorem Zac.F_lim (s0_0 : List Int) (s0_1 : Int) (s0_2 : Int) (a1 : Int) : Lim (fun k => Zac.f k s0_0 s0_1 s0_2 a1) (Zac.F s0_0 s0_1 s0_2 a1) := Lim.of fun k => Zac.mono s0_0 s0_1 s0_2 a1 k
theorem Zac.L0_eq (x1 : Int) (x5 : List Int) (x6 : Int) (x1000 : List Int) (x1001 : Int) (x1002 : Int) : Zac.L0 x1 x5 x6 x1000 x1001 x1002 = (if x6 < x1 then (Zac.J1 x1 x5 x6 (decide (x6 < 12)) x1000 x1001 x1002) else (Zac.J1 x1 x5 x6 false x1000 x1001 x1002)) :=
 Lim.step (f := fun k => Zac.l0 (k + 1) x1 x5 x6 x1000 x1001 x1002) (Zac.L0_lim x1 x5 x6 x1000 x1001 x1002) (fun _ => rfl) (by
  simp only [Zac.l0]
  repeat' (first | (with_reducible first | exact Lim.const _ | exact Zac.J1_lim _ _ _ _ _ _ _ | refine Lim.ite ?_ ?_ | refine Lim.bind ?_ (fun _ => ?_))))
theorem Zac.J1_eq (x1 : Int) (x5 : List Int) (x6 : Int) (x15 : Bool) (x1000 : List Int) (x1001 : Int) (x1002 : Int) : Zac.J1 x1 x5 x6 x15 x1000 x1001 x1002 = (if x15 = true then ((Zax.f x1000 x1001 x1002 (wrap64 ((x5.length : Int) + 1))).bind fun bt163 => (if 0 ≤ bt163.1 then (if bt163.1 ≤ (x5.length : Int) then ((Zbu.f (x5.take (bt163.1 : Int).toNat)).bind fun t170 => (if t170.length < 17592186044416 then ((some (t170 ++ [x6] : List Int)).bind fun y173 => ((some (x5.drop (bt163.1 : Int).toNat : List Int)).bind fun y176 => (if y173.length + y176.length < 17592186044416 then (Zac.L0 x1 (y173 ++ y176) (wrap64 (x6 + 1)) x1000 bt163.2.1 bt163.2.2) else (none)))) else (none))) else (none)) else (none))) else ((Zbd.f x1000 x1001 x1002 12).bind fun bt183 => (if bt183.1 = true then ((Zbp.f x1000 bt183.2.1 bt183.2.2 (([(-1), 0, x1] : List Int))).bind fun bt189 => (if x5.length < 17592186044416 then (some ((x5 ++ [bt189.1]), bt189.2.1, bt189.2.2)) else (none))) else (some (x5, bt183.2.1, bt183.2.2))))) :=
 Lim.step (f := fun k => Zac.j1 (k + 1) x1 x5 x6 x15 x1000 x1001 x1002) (Zac.J1_lim x1 x5 x6 x15 x1000 x1001 x1002) (fun _ => rfl) (by
  simp only [Zac.j1]
  repeat' (first | (with_reducible first | exact Lim.const _ | exact Zac.L0_lim _ _ _ _ _ _ | refine Lim.ite ?_ ?_ | refine Lim.bind ?_ (fun _ => ?_))))
theorem Zac.F_eq (s0_0 : List Int) (s0_1 : Int) (s0_2 : Int) (a1 : Int) : Zac.F s0_0 s0_1 s0_2 a1 = (Zac.L0 a1 ([] : List Int) 0 s0_0 s0_1 s0_2) :=
 Lim.unique (Zac.F_lim s0_0 s0_1 s0_2 a1) (by
  unfold Zac.f
  repeat' (first | (with_reducible first | exact Lim.const _ | exact Zac.L0_lim _ _ _ _ _ _ | refine Lim.ite ?_ ?_ | refine Lim.bind ?_ (fun _ => ?_))))
def complB (l : List Int) : List Int := l.map fun x => wrap64 (wrap64 ((l.length : Int) - 1) - x)
def complAt (l : List Int) (i : Nat) : List Int := (l.take i).map (fun x => wrap64 (wrap64 ((l.length : Int) - 1) - x)) ++ l.drop i
theorem complAt_len (l : List Int) (i : Nat) : (complAt l i).length = l.length := by
 unfold complAt
 rw [List.length_append, List.length_map, List.length_take, List.length_drop]
 omega
theorem complAt_zero (l : List Int) : complAt l 0 = l := by simp [complAt]
theorem complAt_all (l : List Int) : complAt l l.length = complB l := by simp [complAt, complB]
theorem complAt_rd (l : List Int) (i : Nat) (h : i < l.length) : rd (complAt l i) (i : Int) = rd l (i : Int) := by
 rw [rd_nat _ i (by rw [complAt_len]; exact h), rd_nat _ i h]
 simp only [complAt]
 rw [List.getElem_append_right (by rw [List.length_map, List.length_take]; omega)]
 simp [List.length_take, Nat.min_eq_left (Nat.le_of_lt h)]
theorem complAt_set (l : List Int) (i : Nat) (h : i < l.length) : (complAt l i).set i (wrap64 (wrap64 ((l.length : Int) - 1) - rd l (i : Int))) = complAt l (i + 1) := by
 rw [rd_nat l i h]
 unfold complAt
 have hl : ((l.take i).map (fun x => wrap64 (wrap64 ((l.length : Int) - 1) - x))).length = i := by rw [List.length_map, List.length_take]; omega
 rw [List.set_append_right _ _ (by omega), hl, Nat.sub_self, List.drop_eq_getElem_cons h, List.set_cons_zero, List.take_add_one, List.getElem?_eq_getElem h, Option.toList_some, List.map_append, List.map_singleton, List.append_assoc]
 rfl
def Zbo.f (k : Nat) (s0_0 : List Int) (s0_1 : Int) (s0_2 : Int) : Option (List Int × List Int × Int × Int) :=
 (Zag.f k s0_0 s0_1 s0_2).bind fun bt => (Zah.f k bt.1).bind fun t => if t = true ∧ bt.1.length ≤ 7 then ((Zbd.f s0_0 bt.2.1 bt.2.2 3).bind fun o => if o.1 = true then ((Zac.f k s0_0 o.2.1 o.2.2 (bt.1.length : Int)).bind fun q => some (bt.1, q.1, q.2.1, q.2.2)) else ((Zbr.f bt.1).bind fun ga => if 0 < ga.1 then ((Zbd.f s0_0 o.2.1 o.2.2 2).bind fun o2 => if o2.1 = true then (if ga.2.length ≤ 1000 then some (bt.1, complB ga.2, o2.2.1, o2.2.2) else none) else some (bt.1, ga.2, o2.2.1, o2.2.2)) else ((Zac.f k s0_0 o.2.1 o.2.2 (bt.1.length : Int)).bind fun q => some (bt.1, q.1, q.2.1, q.2.2)))) else ((Zac.f k s0_0 bt.2.1 bt.2.2 (bt.1.length : Int)).bind fun q => some (bt.1, q.1, q.2.1, q.2.2))
theorem Zbo.mono : ∀ a b c k, LeO (Zbo.f k a b c) (Zbo.f (k + 1) a b c) := fun a b c k => LeO.bind (Zag.mono _ _ _ _) fun _ => LeO.bind (Zah.mono _ _) fun _ => LeO.ite (LeO.bind (LeO.refl _) fun _ => LeO.ite (LeO.bind (Zac.mono _ _ _ _ _) fun _ => LeO.refl _) (LeO.bind (LeO.refl _) fun _ => LeO.ite (LeO.bind (LeO.refl _) fun _ => LeO.refl _) (LeO.bind (Zac.mono _ _ _ _ _) fun _ => LeO.refl _))) (LeO.bind (Zac.mono _ _ _ _ _) fun _ => LeO.refl _)
noncomputable def Zbo.F (s0_0 : List Int) (s0_1 : Int) (s0_2 : Int) : Option (List Int × List Int × Int × Int) :=
 (Zag.F s0_0 s0_1 s0_2).bind fun bt => (Zah.F bt.1).bind fun t => if t = true ∧ bt.1.length ≤ 7 then ((Zbd.f s0_0 bt.2.1 bt.2.2 3).bind fun o => if o.1 = true then ((Zac.F s0_0 o.2.1 o.2.2 (bt.1.length : Int)).bind fun q => some (bt.1, q.1, q.2.1, q.2.2)) else ((Zbr.f bt.1).bind fun ga => if 0 < ga.1 then ((Zbd.f s0_0 o.2.1 o.2.2 2).bind fun o2 => if o2.1 = true then (if ga.2.length ≤ 1000 then some (bt.1, complB ga.2, o2.2.1, o2.2.2) else none) else some (bt.1, ga.2, o2.2.1, o2.2.2)) else ((Zac.F s0_0 o.2.1 o.2.2 (bt.1.length : Int)).bind fun q => some (bt.1, q.1, q.2.1, q.2.2)))) else ((Zac.F s0_0 bt.2.1 bt.2.2 (bt.1.length : Int)).bind fun q => some (bt.1, q.1, q.2.1, q.2.2))
theorem Zbo.F_lim {s0_0 : List Int} {s0_1 : Int} {s0_2 : Int} : Lim (fun k => Zbo.f k s0_0 s0_1 s0_2) (Zbo.F s0_0 s0_1 s0_2) := Lim.bind (Zag.F_lim _ _ _) fun _ => Lim.bind (Zah.F_lim _) fun _ => Lim.ite (Lim.bind (Lim.const _) fun _ => Lim.ite (Lim.bind (Zac.F_lim _ _ _ _) fun _ => Lim.const _) (Lim.bind (Lim.const _) fun _ => Lim.ite (Lim.const _) (Lim.bind (Zac.F_lim _ _ _ _) fun _ => Lim.const _))) (Lim.bind (Zac.F_lim _ _ _ _) fun _ => Lim.const _)
structure LabS (w0 w W : World) (g : Nat) (s0 : List Int) (s1 s2 : Int) (v : Value) (ps : List Int) : Prop where
 st : IsS68 w0 W g s0 s1 s2
 bl : Below w0.heap.size w0 W
 kp : KeepBut w W g none
 row : Kd.R (Kd.int .i64) 3 W w.heap.size (fun k => True ∧ k ≠ g) v ps
structure LabT (W : World) (B : Nat) (v v2 : Value) (fs : List Int) (w : World) (g : Nat) : Prop where
 row : Kd.R (Kd.int .i64) 3 W B (fun k => True ∧ k ≠ g) v2 fs
 lt : ∀ k, v.ownBlock = some k → k < B
 base : w.heap.size ≤ B
 g : g < B
theorem LabS.made {w0 w W W' : World} {g : Nat} {s0 : List Int} {s1 s2 : Int} {v : Value} {ps : List Int} (h : LabS w0 w W g s0 s1 s2 v ps) (hb : Below W.heap.size W W') : LabS w0 w W' g s0 s1 s2 v ps :=
 ⟨h.st.below hb, h.bl.trans (hb.mono h.bl.size), h.kp.trans (KeepBut.of_below hb g none) (.inl rfl), Kd.R_below h.row hb⟩
theorem LabS.next {w0 w W W' : World} {g : Nat} {s0 : List Int} {s1 s2 a z : Int} {v : Value} {ps : List Int} (h : LabS w0 w W g s0 s1 s2 v ps) (hi : IsS68 w0 W' g s0 a z) (hb : Below w0.heap.size w0 W') (hk : KeepBut W W' g none) : LabS w0 w W' g s0 a z v ps :=
 ⟨hi, hb, h.kp.trans hk (.inl rfl), Kd.R_keep h.row hk (fun _ h => h.2)⟩
theorem LabT.keep {W W' w : World} {B g : Nat} {v v2 : Value} {fs : List Int} (h : LabT W B v v2 fs w g) (hk : KeepBut W W' g none) : LabT W' B v v2 fs w g := ⟨Kd.R_keep h.row hk (fun _ h => h.2), h.lt, h.base, h.g⟩
theorem LabS.both {w0 w W : World} {g B : Nat} {s0 : List Int} {s1 s2 : Int} {v v2 : Value} {ps fs : List Int} (h : LabS w0 w W g s0 s1 s2 v ps) (t : LabT W B v v2 fs w g) :
  Kd.R (Kd.int .i64) 3 W w.heap.size (fun k_ => some k_ ≠ (v2 : Value).ownBlock) v ps ∧ Kd.R (Kd.int .i64) 3 W w.heap.size (fun k_ => some k_ ≠ (v : Value).ownBlock) v2 fs ∧ IsS68 w0 W g s0 s1 s2 ∧ Below w0.heap.size w0 W ∧ KeepBut w W g none :=
 ⟨Kd.R_reok rfl h.row (fun k hk e => by have h1 := t.lt k hk; have h2 := Kd.R_base t.row k e.symm; omega), Kd.R_lower (Kd.R_reok rfl t.row (fun k hk e => by have h1 := t.lt k e.symm; have h2 := Kd.R_base t.row k hk; omega)) t.base, h.st, h.bl, h.kp⟩
theorem LabS.ends {w0 w W W' : World} {g : Nat} {s0 : List Int} {s1 s2 a z : Int} {v v2 : Value} {ps fs : List Int} (h : LabS w0 w W g s0 s1 s2 v ps) (ho : Kd.R (Kd.int .i64) 3 W' W.heap.size (fun _ => True) v2 fs) (hi : IsS68 w0 W' g s0 a z) (hb : Below w0.heap.size w0 W') (hk : KeepBut W W' g none) :
  Kd.R (Kd.int .i64) 3 W' w.heap.size (fun k_ => some k_ ≠ (v2 : Value).ownBlock) v ps ∧ Kd.R (Kd.int .i64) 3 W' w.heap.size (fun k_ => some k_ ≠ (v : Value).ownBlock) v2 fs ∧ IsS68 w0 W' g s0 a z ∧ Below w0.heap.size w0 W' ∧ KeepBut w W' g none :=
 (h.next hi hb hk).both (B := W.heap.size) ⟨Kd.R_reok rfl ho (fun k hk' => ⟨trivial, fun e => by have h1 := Kd.R_base ho k hk'; have h2 := IsS68.lt h.st; omega⟩), Kd.R_lt h.row, h.kp.1, IsS68.lt h.st⟩
theorem lab_put {w0 w W : World} {g B go c : Nat} {s0 : List Int} {s1 s2 : Int} {v : Value} {ps xs : List Int} (h : LabS w0 w W g s0 s1 s2 v ps) (t : LabT W B v (.slice (some ⟨go, 0, none⟩) xs.length c) xs w g) (hw0 : w0.heap.size ≤ w.heap.size) (i : Nat) (x : Int) :
  LabS w0 w (W.setCell ⟨go, i, none⟩ (.int .i64 x)) g s0 s1 s2 v ps ∧ LabT (W.setCell ⟨go, i, none⟩ (.int .i64 x)) B v (.slice (some ⟨go, 0, none⟩) (xs.set i x).length c) (xs.set i x) w g := by
 have hB : B ≤ go := Kd.R_base t.row go rfl
 have hg : go ≠ g := (t.row.1 go rfl).2
 have hp := (Kd.R_put (enc := Value.int .i64) (h1 := fun _ => rfl) t.row (i : Int) x).1
 rw [Int.toNat_natCast] at hp
 refine ⟨⟨IsS68.far h.st (show g ≠ (⟨go, i, none⟩ : Addr).block from fun e => hg e.symm) _, h.bl.setCell (show w0.heap.size ≤ (⟨go, i, none⟩ : Addr).block from Nat.le_trans hw0 (Nat.le_trans t.base hB)) _, ⟨?_, fun j hj hjg hr => ?_⟩, ?_⟩, ⟨by rw [List.length_set]; exact hp, t.lt, t.base, t.g⟩⟩
 ·exact Nat.le_trans h.kp.1 ((Below.refl B W).setCell (show B ≤ (⟨go, i, none⟩ : Addr).block from hB) (.int .i64 x)).size
 ·have hb := t.base
  exact (Below.heap_setCell W _ _ j (fun e => by have e2 : j = go := e; omega)).trans (h.kp.2 j hj hjg hr)
 ·exact Kd.R_mono (Kd.R_far (p := ⟨go, i, none⟩) (Kd.R_reok (ok := fun k => (True ∧ k ≠ g) ∧ k < B) rfl h.row (fun k hk => ⟨h.row.1 k hk, t.lt k hk⟩)) (fun k hk e => by have e2 : k = go := e; omega) _) (fun _ h => h.1)
theorem Zbo.calls (k : Nat) (g : Nat) (s0_0 : List Int) (s0_1 : Int) (s0_2 : Int) (r1 : List Int) (r2 : List Int) (r3 : Int) (r4 : Int) (w0 w : World) (hI : IsS68 w0 w g s0_0 s0_1 s0_2) (hB : Below w0.heap.size w0 w) (h : Zbo.f k s0_0 s0_1 s0_2 = some (r1, r2, r3, r4)) :
  Calls Try.prog 133 #[.pointer (some ⟨g, 0, none⟩)] w fun e w' => ∃ v0_ v1_ : Value, e = .returned (.tuple #[v0_, v1_]) ∧ Kd.R (Kd.int .i64) 3 w' w.heap.size (fun k_ => some k_ ≠ (v1_ : Value).ownBlock) v0_ r1 ∧ Kd.R (Kd.int .i64) 3 w' w.heap.size (fun k_ => some k_ ≠ (v0_ : Value).ownBlock) v1_ r2 ∧ IsS68 w0 w' g s0_0 r3 r4 ∧ Below w0.heap.size w0 w' ∧ KeepBut w w' g none := by
 have HI := Aside0.mk hI
 have HB := Aside0.mk hB
 unfold Zbo.f at h
 obtain ⟨⟨ps, a1, z1⟩, htree, h⟩ := Option.bind_eq_some_iff.1 h
 dsimp only at h
 obtain ⟨t, hgt, h⟩ := Option.bind_eq_some_iff.1 h
 have HTREE := Aside0.mk htree
 have HGT := Aside0.mk hgt
 clear hI hB htree hgt
 by_cases hc : t = true ∧ ps.length ≤ 7
 ·rw [if_pos hc] at h
  obtain ⟨ht, h7⟩ := hc
  subst ht
  have b1 : decide ((ps.length : Int) ≤ 7) = true := decide_eq_true (by omega)
  have b1n := decide_eq_true h7
  obtain ⟨⟨o, a2, z2⟩, hone, h⟩ := Option.bind_eq_some_iff.1 h
  dsimp only at h
  have HONE := Aside0.mk hone
  clear hone h7
  cases o with
  | true =>
   rw [if_pos rfl] at h
   obtain ⟨⟨q, a3, z3⟩, hof, h⟩ := Option.bind_eq_some_iff.1 h
   simp only [Option.some.injEq, Prod.mk.injEq] at h
   obtain ⟨rfl, rfl, rfl, rfl⟩ := h
   have HOF := Aside0.mk hof
   clear hof
   go_enter Try.func133, Try.ntmps133
   go_wp2_with (first | ((with_reducible refine gate_callee (f := 91) rfl ?_); refine goesA (some 10) Try.func91 #[.pointer (some ⟨g, 0, none⟩)] ?_; refine (Zag.calls k g s0_0 s0_1 s0_2 ps a1 z1 w0 w HI.out HB.out HTREE.out).mono ?_; rintro e w1 ⟨v1, rfl, ho, hi, hb, hk⟩; refine ⟨_, rfl, ?_⟩; obtain ⟨A1, c1, e1⟩ := Kd.R_slice ho; subst e1; have S1 := Aside0.mk (show LabS w0 w w1 g s0_0 a1 z1 (.slice A1 ps.length c1) ps from ⟨hi, hb, hk, Kd.R_mono (Kd.R_far1 ho rfl (IsS68.own_ne hi ho (by decide))) (fun _ h => h)⟩); clear ho hi hb hk) | ((with_reducible refine gate_callee (f := 88) rfl ?_); refine goesA (some 12) Try.func88 #[.slice A1 ps.length c1] ?_; refine (Zah.calls k A1 c1 ps true w1 (Kd.R_reads' S1.out.row).2.2 (Kd.R_reads' S1.out.row).2.1 HGT.out).mono ?_; rintro e w2 ⟨rfl, ⟨n1, rfl⟩⟩; refine ⟨_, rfl, ?_⟩; have S2 := Aside0.mk (S1.out.made (pw_below_drewN (Below.refl _ _) n1))) | (go_at_call 92; (with_reducible refine (Zbd.calls g s0_0 a1 z1 3 true a2 z2 w0 _ S2.out.st S2.out.bl HONE.out).mono ?_); rintro e w3 ⟨rfl, hi, hb, hk⟩; have S3 := Aside0.mk (S2.out.next hi hb hk); clear hi hb hk) | ((with_reducible refine gate_callee (f := 157) rfl ?_); refine goesA (some 54) Try.func157 #[.pointer (some ⟨g, 0, none⟩), .int .i64 (ps.length : Int)] ?_; refine (Zac.calls k g s0_0 a2 z2 (ps.length : Int) q a3 z3 w0 _ S3.out.st S3.out.bl HOF.out).mono ?_; rintro e w9 ⟨v9, rfl, ho, hi, hb, hk⟩; refine ⟨_, rfl, ?_⟩; have R9 := Aside0.mk (S3.out.ends ho hi hb hk); clear ho hi hb hk))
   go_ret2
   exact ⟨_, _, rfl, R9.out.1, R9.out.2.1, R9.out.2.2.1, R9.out.2.2.2.1, R9.out.2.2.2.2⟩
  | false =>
   rw [if_neg (by decide)] at h
   obtain ⟨⟨cnt, fs⟩, hga, h⟩ := Option.bind_eq_some_iff.1 h
   dsimp only at h
   have HGA := Aside0.mk hga
   clear hga
   by_cases hcnt : 0 < cnt
   rotate_left
   ·rw [if_neg hcnt] at h
    have b2 := decide_eq_false hcnt
    obtain ⟨⟨q, a3, z3⟩, hof, h⟩ := Option.bind_eq_some_iff.1 h
    simp only [Option.some.injEq, Prod.mk.injEq] at h
    obtain ⟨rfl, rfl, rfl, rfl⟩ := h
    have HOF := Aside0.mk hof
    clear hof hcnt
    go_enter Try.func133, Try.ntmps133
    go_wp2_with (first | ((with_reducible refine gate_callee (f := 91) rfl ?_); refine goesA (some 10) Try.func91 #[.pointer (some ⟨g, 0, none⟩)] ?_; refine (Zag.calls k g s0_0 s0_1 s0_2 ps a1 z1 w0 w HI.out HB.out HTREE.out).mono ?_; rintro e w1 ⟨v1, rfl, ho, hi, hb, hk⟩; refine ⟨_, rfl, ?_⟩; obtain ⟨A1, c1, e1⟩ := Kd.R_slice ho; subst e1; have S1 := Aside0.mk (show LabS w0 w w1 g s0_0 a1 z1 (.slice A1 ps.length c1) ps from ⟨hi, hb, hk, Kd.R_mono (Kd.R_far1 ho rfl (IsS68.own_ne hi ho (by decide))) (fun _ h => h)⟩); clear ho hi hb hk) | ((with_reducible refine gate_callee (f := 88) rfl ?_); refine goesA (some 12) Try.func88 #[.slice A1 ps.length c1] ?_; refine (Zah.calls k A1 c1 ps true w1 (Kd.R_reads' S1.out.row).2.2 (Kd.R_reads' S1.out.row).2.1 HGT.out).mono ?_; rintro e w2 ⟨rfl, ⟨n1, rfl⟩⟩; refine ⟨_, rfl, ?_⟩; have S2 := Aside0.mk (S1.out.made (pw_below_drewN (Below.refl _ _) n1))) | (go_at_call 92; (with_reducible refine (Zbd.calls g s0_0 a1 z1 3 false a2 z2 w0 _ S2.out.st S2.out.bl HONE.out).mono ?_); rintro e w3 ⟨rfl, hi, hb, hk⟩; have S3 := Aside0.mk (S2.out.next hi hb hk); clear hi hb hk) | ((with_reducible refine gate_callee (f := 95) rfl ?_); refine goesA (some 25) Try.func95 #[.slice A1 ps.length c1] ?_; refine (Zbr.calls A1 c1 ps cnt fs w3 (Kd.R_reads' S3.out.row).2.2 (Kd.R_reads' S3.out.row).2.1 HGA.out).mono ?_; rintro e w4 ⟨v4, rfl, ho, hb⟩; refine ⟨_, rfl, ?_⟩; obtain ⟨A4, c4, e4⟩ := Kd.R_slice ho; subst e4; have S4 := Aside0.mk (S3.out.made hb); have T4 := Aside0.mk (show LabT w4 w3.heap.size (.slice A1 ps.length c1) (.slice A4 fs.length c4) fs w g from ⟨Kd.R_reok rfl ho (fun k hk => ⟨trivial, fun e => by have h1 := Kd.R_base ho k hk; have h2 := IsS68.lt S3.out.st; omega⟩), Kd.R_lt S3.out.row, S3.out.kp.1, IsS68.lt S3.out.st⟩); clear ho hb) | ((with_reducible refine gate_callee (f := 157) rfl ?_); refine goesA (some 54) Try.func157 #[.pointer (some ⟨g, 0, none⟩), .int .i64 (ps.length : Int)] ?_; refine (Zac.calls k g s0_0 a2 z2 (ps.length : Int) q a3 z3 w0 _ S4.out.st S4.out.bl HOF.out).mono ?_; rintro e w9 ⟨v9, rfl, ho, hi, hb, hk⟩; refine ⟨_, rfl, ?_⟩; have R9 := Aside0.mk (S4.out.ends ho hi hb hk); clear ho hi hb hk))
    go_ret2
    exact ⟨_, _, rfl, R9.out.1, R9.out.2.1, R9.out.2.2.1, R9.out.2.2.2.1, R9.out.2.2.2.2⟩
   rw [if_pos hcnt] at h
   have b2 := decide_eq_true hcnt
   obtain ⟨⟨o2, a3, z3⟩, htwo, h⟩ := Option.bind_eq_some_iff.1 h
   dsimp only at h
   cases o2 with
   | false =>
    rw [if_neg (by decide)] at h
    simp only [Option.some.injEq, Prod.mk.injEq] at h
    obtain ⟨rfl, rfl, rfl, rfl⟩ := h
    have HTWO := Aside0.mk htwo
    clear htwo hcnt
    go_enter Try.func133, Try.ntmps133
    go_wp2_with (first | ((with_reducible refine gate_callee (f := 91) rfl ?_); refine goesA (some 10) Try.func91 #[.pointer (some ⟨g, 0, none⟩)] ?_; refine (Zag.calls k g s0_0 s0_1 s0_2 ps a1 z1 w0 w HI.out HB.out HTREE.out).mono ?_; rintro e w1 ⟨v1, rfl, ho, hi, hb, hk⟩; refine ⟨_, rfl, ?_⟩; obtain ⟨A1, c1, e1⟩ := Kd.R_slice ho; subst e1; have S1 := Aside0.mk (show LabS w0 w w1 g s0_0 a1 z1 (.slice A1 ps.length c1) ps from ⟨hi, hb, hk, Kd.R_mono (Kd.R_far1 ho rfl (IsS68.own_ne hi ho (by decide))) (fun _ h => h)⟩); clear ho hi hb hk) | ((with_reducible refine gate_callee (f := 88) rfl ?_); refine goesA (some 12) Try.func88 #[.slice A1 ps.length c1] ?_; refine (Zah.calls k A1 c1 ps true w1 (Kd.R_reads' S1.out.row).2.2 (Kd.R_reads' S1.out.row).2.1 HGT.out).mono ?_; rintro e w2 ⟨rfl, ⟨n1, rfl⟩⟩; refine ⟨_, rfl, ?_⟩; have S2 := Aside0.mk (S1.out.made (pw_below_drewN (Below.refl _ _) n1))) | (go_at_call 92; (with_reducible refine (Zbd.calls g s0_0 a1 z1 3 false a2 z2 w0 _ S2.out.st S2.out.bl HONE.out).mono ?_); rintro e w3 ⟨rfl, hi, hb, hk⟩; have S3 := Aside0.mk (S2.out.next hi hb hk); clear hi hb hk) | ((with_reducible refine gate_callee (f := 95) rfl ?_); refine goesA (some 25) Try.func95 #[.slice A1 ps.length c1] ?_; refine (Zbr.calls A1 c1 ps cnt fs w3 (Kd.R_reads' S3.out.row).2.2 (Kd.R_reads' S3.out.row).2.1 HGA.out).mono ?_; rintro e w4 ⟨v4, rfl, ho, hb⟩; refine ⟨_, rfl, ?_⟩; obtain ⟨A4, c4, e4⟩ := Kd.R_slice ho; subst e4; have S4 := Aside0.mk (S3.out.made hb); have T4 := Aside0.mk (show LabT w4 w3.heap.size (.slice A1 ps.length c1) (.slice A4 fs.length c4) fs w g from ⟨Kd.R_reok rfl ho (fun k hk => ⟨trivial, fun e => by have h1 := Kd.R_base ho k hk; have h2 := IsS68.lt S3.out.st; omega⟩), Kd.R_lt S3.out.row, S3.out.kp.1, IsS68.lt S3.out.st⟩); clear ho hb) | ((with_reducible refine gate_callee (f := 92) rfl ?_); refine goesA (some 31) Try.func92 #[.pointer (some ⟨g, 0, none⟩), .int .i64 2] ?_; refine (Zbd.calls g s0_0 a2 z2 2 false a3 z3 w0 w4 S4.out.st S4.out.bl HTWO.out).mono ?_; rintro e w5 ⟨rfl, hi, hb, hk⟩; refine ⟨_, rfl, ?_⟩; have S5 := Aside0.mk (S4.out.next hi hb hk); have T5 := Aside0.mk (T4.out.keep hk); clear hi hb hk))
    go_ret2
    have R9 := S5.out.both T5.out
    exact ⟨_, _, rfl, R9.1, R9.2.1, R9.2.2.1, R9.2.2.2.1, R9.2.2.2.2⟩
   | true =>
    rw [if_pos rfl] at h
    by_cases hl : fs.length ≤ 1000
    rotate_left
    ·rw [if_neg hl] at h
     cases h
    rw [if_pos hl] at h
    simp only [Option.some.injEq, Prod.mk.injEq] at h
    obtain ⟨rfl, rfl, rfl, rfl⟩ := h
    have HTWO := Aside0.mk htwo
    have HL := Aside0.mk hl
    have HW0 := Aside0.mk HB.out.size
    clear htwo hcnt hl
    go_enter Try.func133, Try.ntmps133
    go_wp2_with (first | ((with_reducible refine gate_callee (f := 91) rfl ?_); refine goesA (some 10) Try.func91 #[.pointer (some ⟨g, 0, none⟩)] ?_; refine (Zag.calls k g s0_0 s0_1 s0_2 ps a1 z1 w0 w HI.out HB.out HTREE.out).mono ?_; rintro e w1 ⟨v1, rfl, ho, hi, hb, hk⟩; refine ⟨_, rfl, ?_⟩; obtain ⟨A1, c1, e1⟩ := Kd.R_slice ho; subst e1; have S1 := Aside0.mk (show LabS w0 w w1 g s0_0 a1 z1 (.slice A1 ps.length c1) ps from ⟨hi, hb, hk, Kd.R_mono (Kd.R_far1 ho rfl (IsS68.own_ne hi ho (by decide))) (fun _ h => h)⟩); clear ho hi hb hk) | ((with_reducible refine gate_callee (f := 88) rfl ?_); refine goesA (some 12) Try.func88 #[.slice A1 ps.length c1] ?_; refine (Zah.calls k A1 c1 ps true w1 (Kd.R_reads' S1.out.row).2.2 (Kd.R_reads' S1.out.row).2.1 HGT.out).mono ?_; rintro e w2 ⟨rfl, ⟨n1, rfl⟩⟩; refine ⟨_, rfl, ?_⟩; have S2 := Aside0.mk (S1.out.made (pw_below_drewN (Below.refl _ _) n1))) | (go_at_call 92; (with_reducible refine (Zbd.calls g s0_0 a1 z1 3 false a2 z2 w0 _ S2.out.st S2.out.bl HONE.out).mono ?_); rintro e w3 ⟨rfl, hi, hb, hk⟩; have S3 := Aside0.mk (S2.out.next hi hb hk); clear hi hb hk) | ((with_reducible refine gate_callee (f := 95) rfl ?_); refine goesA (some 25) Try.func95 #[.slice A1 ps.length c1] ?_; refine (Zbr.calls A1 c1 ps cnt fs w3 (Kd.R_reads' S3.out.row).2.2 (Kd.R_reads' S3.out.row).2.1 HGA.out).mono ?_; rintro e w4 ⟨v4, rfl, ho, hb⟩; refine ⟨_, rfl, ?_⟩; obtain ⟨A4, c4, e4⟩ := Kd.R_slice ho; subst e4; have S4 := Aside0.mk (S3.out.made hb); have T4 := Aside0.mk (show LabT w4 w3.heap.size (.slice A1 ps.length c1) (.slice A4 fs.length c4) fs w g from ⟨Kd.R_reok rfl ho (fun k hk => ⟨trivial, fun e => by have h1 := Kd.R_base ho k hk; have h2 := IsS68.lt S3.out.st; omega⟩), Kd.R_lt S3.out.row, S3.out.kp.1, IsS68.lt S3.out.st⟩); clear ho hb) | ((with_reducible refine gate_callee (f := 92) rfl ?_); refine goesA (some 31) Try.func92 #[.pointer (some ⟨g, 0, none⟩), .int .i64 2] ?_; refine (Zbd.calls g s0_0 a2 z2 2 true a3 z3 w0 w4 S4.out.st S4.out.bl HTWO.out).mono ?_; rintro e w5 ⟨rfl, hi, hb, hk⟩; refine ⟨_, rfl, ?_⟩; have S5 := Aside0.mk (S4.out.next hi hb hk); have T5 := Aside0.mk (T4.out.keep hk); clear hi hb hk))
    go_loopw [34] (fun v34 wr => ∃ i : Nat, i ≤ fs.length ∧ v34 = .int .i64 (i : Int) ∧ Aside0 (LabS w0 w wr g s0_0 a3 z3 (.slice A1 ps.length c1) ps) ∧ Aside0 (LabT wr w3.heap.size (.slice A1 ps.length c1) (.slice A4 fs.length c4) (complAt fs i) w g)) (fun v34 _ => fs.length - (intOf v34).toNat)
    case atStart => exact ⟨0, Nat.zero_le _, rfl, S5, ⟨by rw [complAt_zero]; exact T5.out⟩⟩
    case round =>
     obtain ⟨i, hi, rfl, S6, T6⟩ := hrel
     have hl := HL.out
     by_cases hlt : i < fs.length
     rotate_left
     ·obtain rfl : i = fs.length := by omega
      have c1b : decide ((fs.length : Int) < (fs.length : Int)) = false := decide_eq_false (by omega)
      have c1n : decide (fs.length < fs.length) = false := decide_eq_false (by omega)
      clear hlt hi
      go_wp2
      go_ret2
      have T8 := T6.out
      rw [complAt_all] at T8
      have R9 := S6.out.both T8
      exact ⟨_, _, rfl, R9.1, R9.2.1, R9.2.2.1, R9.2.2.2.1, R9.2.2.2.2⟩
     have HLT := Aside0.mk hlt
     have c1b : decide ((i : Int) < (fs.length : Int)) = true := decide_eq_true (by omega)
     have c1n := decide_eq_true hlt
     have hlen := complAt_len fs i
     have hR := T6.out.row
     rw [← hlen] at hR
     obtain ⟨go, cap, hv, _, _, _⟩ := Kd.R_form hR (by omega)
     injection hv with hA _ _
     subst hA
     have hcell := Kd.R_cell (enc := Value.int .i64) (h1 := fun _ => rfl) (0 : Int) hR (i : Int) (by omega) (by omega)
     rw [Int.toNat_natCast, show rdOf (0 : Int) (complAt fs i) (i : Int) = rd (complAt fs i) (i : Int) from rfl, complAt_rd fs i hlt] at hcell
     obtain ⟨hx, hf⟩ := hcell
     have p1 : (0 ≤ (i : Int)) = True := eq_true (by omega)
     have q1 : ((i : Int) < (fs.length : Int)) = True := eq_true (by omega)
     obtain ⟨x, hxe⟩ : ∃ x, rd fs (i : Int) = x := ⟨_, rfl⟩
     rw [hxe] at hx
     have hput := lab_put S6.out (show LabT wr w3.heap.size (.slice A1 ps.length c1) (.slice (some ⟨go, 0, none⟩) (complAt fs i).length c4) (complAt fs i) w g from by rw [hlen]; exact T6.out) HW0.out i (wrap64 (wrap64 ((fs.length : Int) - 1) - x))
     rw [← hxe, complAt_set fs i hlt, complAt_len, hxe, show wrap64 ((fs.length : Int) - 1) = (fs.length : Int) - 1 from wrap_in (by omega) (by omega)] at hput
     have S7 := Aside0.mk hput.1
     have T7 := Aside0.mk hput.2
     clear hput hR hlen hi hxe
     go_wp2
     go_roundw
     case rel => exact ⟨i + 1, HLT.out, by go_num, S7, T7⟩
     case measure => simp [intOf]; have := HLT.out; omega
 ·rw [if_neg hc] at h
  obtain ⟨⟨q, a3, z3⟩, hof, h⟩ := Option.bind_eq_some_iff.1 h
  simp only [Option.some.injEq, Prod.mk.injEq] at h
  obtain ⟨rfl, rfl, rfl, rfl⟩ := h
  have HOF := Aside0.mk hof
  clear hof
  cases t with
  | true =>
   have b1 : decide ((ps.length : Int) ≤ 7) = false := decide_eq_false fun h => hc ⟨rfl, by omega⟩
   have b1n : decide (ps.length ≤ 7) = false := decide_eq_false fun h => hc ⟨rfl, h⟩
   clear hc
   go_enter Try.func133, Try.ntmps133
   go_wp2_with (first | ((with_reducible refine gate_callee (f := 91) rfl ?_); refine goesA (some 10) Try.func91 #[.pointer (some ⟨g, 0, none⟩)] ?_; refine (Zag.calls k g s0_0 s0_1 s0_2 ps a1 z1 w0 w HI.out HB.out HTREE.out).mono ?_; rintro e w1 ⟨v1, rfl, ho, hi, hb, hk⟩; refine ⟨_, rfl, ?_⟩; obtain ⟨A1, c1, e1⟩ := Kd.R_slice ho; subst e1; have S1 := Aside0.mk (show LabS w0 w w1 g s0_0 a1 z1 (.slice A1 ps.length c1) ps from ⟨hi, hb, hk, Kd.R_mono (Kd.R_far1 ho rfl (IsS68.own_ne hi ho (by decide))) (fun _ h => h)⟩); clear ho hi hb hk) | ((with_reducible refine gate_callee (f := 88) rfl ?_); refine goesA (some 12) Try.func88 #[.slice A1 ps.length c1] ?_; refine (Zah.calls k A1 c1 ps true w1 (Kd.R_reads' S1.out.row).2.2 (Kd.R_reads' S1.out.row).2.1 HGT.out).mono ?_; rintro e w2 ⟨rfl, ⟨n1, rfl⟩⟩; refine ⟨_, rfl, ?_⟩; have S2 := Aside0.mk (S1.out.made (pw_below_drewN (Below.refl _ _) n1))) | ((with_reducible refine gate_callee (f := 157) rfl ?_); refine goesA (some 54) Try.func157 #[.pointer (some ⟨g, 0, none⟩), .int .i64 (ps.length : Int)] ?_; refine (Zac.calls k g s0_0 a1 z1 (ps.length : Int) q a3 z3 w0 _ S2.out.st S2.out.bl HOF.out).mono ?_; rintro e w9 ⟨v9, rfl, ho, hi, hb, hk⟩; refine ⟨_, rfl, ?_⟩; have R9 := Aside0.mk (S2.out.ends ho hi hb hk); clear ho hi hb hk))
   go_ret2
   exact ⟨_, _, rfl, R9.out.1, R9.out.2.1, R9.out.2.2.1, R9.out.2.2.2.1, R9.out.2.2.2.2⟩
  | false =>
   clear hc
   go_enter Try.func133, Try.ntmps133
   go_wp2_with (first | ((with_reducible refine gate_callee (f := 91) rfl ?_); refine goesA (some 10) Try.func91 #[.pointer (some ⟨g, 0, none⟩)] ?_; refine (Zag.calls k g s0_0 s0_1 s0_2 ps a1 z1 w0 w HI.out HB.out HTREE.out).mono ?_; rintro e w1 ⟨v1, rfl, ho, hi, hb, hk⟩; refine ⟨_, rfl, ?_⟩; obtain ⟨A1, c1, e1⟩ := Kd.R_slice ho; subst e1; have S1 := Aside0.mk (show LabS w0 w w1 g s0_0 a1 z1 (.slice A1 ps.length c1) ps from ⟨hi, hb, hk, Kd.R_mono (Kd.R_far1 ho rfl (IsS68.own_ne hi ho (by decide))) (fun _ h => h)⟩); clear ho hi hb hk) | ((with_reducible refine gate_callee (f := 88) rfl ?_); refine goesA (some 12) Try.func88 #[.slice A1 ps.length c1] ?_; refine (Zah.calls k A1 c1 ps false w1 (Kd.R_reads' S1.out.row).2.2 (Kd.R_reads' S1.out.row).2.1 HGT.out).mono ?_; rintro e w2 ⟨rfl, ⟨n1, rfl⟩⟩; refine ⟨_, rfl, ?_⟩; have S2 := Aside0.mk (S1.out.made (pw_below_drewN (Below.refl _ _) n1))) | ((with_reducible refine gate_callee (f := 157) rfl ?_); refine goesA (some 54) Try.func157 #[.pointer (some ⟨g, 0, none⟩), .int .i64 (ps.length : Int)] ?_; refine (Zac.calls k g s0_0 a1 z1 (ps.length : Int) q a3 z3 w0 _ S2.out.st S2.out.bl HOF.out).mono ?_; rintro e w9 ⟨v9, rfl, ho, hi, hb, hk⟩; refine ⟨_, rfl, ?_⟩; have R9 := Aside0.mk (S2.out.ends ho hi hb hk); clear ho hi hb hk))
   go_ret2
   exact ⟨_, _, rfl, R9.out.1, R9.out.2.1, R9.out.2.2.1, R9.out.2.2.2.1, R9.out.2.2.2.2⟩
def Zbh.f (k : Nat) (l0 : List Int) : Option (List Int × List Int) := (Zbo.f k l0 0 0).bind fun bt196 => (some (bt196.1, bt196.2.1))
theorem Zbh.mono : ∀ a0 k, LeO (Zbh.f k a0) (Zbh.f (k + 1) a0) := by
 intro a0 k
 unfold Zbh.f
 repeat' (first | (with_reducible first | exact Zbo.mono _ _ _ _ | exact LeO.refl _ | exact LeO.none _ | refine LeO.ite ?_ ?_ | refine LeO.bind ?_ (fun _ => ?_)) | exact Zbo.mono _ _ _ _ | exact LeO.none _ | refine LeO.ite ?_ ?_ | refine LeO.bind ?_ (fun _ => ?_))
theorem Zbh.calls (k : Nat) (A0 : Option Addr) (c0 : Nat) (l0 : List Int) (r1 : List Int) (r2 : List Int) (w : World) (hr0 : Kd.C (Kd.int .u8) w A0 l0.length l0) (hc0 : l0.length ≤ c0) (h : Zbh.f k l0 = some (r1, r2)) :
  Calls Try.prog 81 #[.slice A0 l0.length c0] w fun e w' => ∃ v0_ v1_ : Value, e = .returned (.tuple #[v0_, v1_]) ∧ Kd.R (Kd.int .i64) 3 w' w.heap.size (fun k_ => some k_ ≠ (v1_ : Value).ownBlock) v0_ r1 ∧ Kd.R (Kd.int .i64) 3 w' w.heap.size (fun k_ => some k_ ≠ (v0_ : Value).ownBlock) v1_ r2 ∧ Below w.heap.size w w' := by
 have hu68 := Try.underlying68
 have HR0 := Aside0.mk hr0
 have HC0 := Aside0.mk hc0
 clear hr0 hc0
 have HB := Aside0.mk (Below.refl w.heap.size w)
 have H := h
 unfold Zbh.f at H
 clear h
 replace H := Option.bind_eq_some_iff.mp H
 obtain ⟨⟨t196, t199, t202, t203⟩, A20, H⟩ := H
 replace H : (some (t196, t199)) = some (r1, r2) := H
 have A2 := Aside0.mk A20
 clear A20
 simp only [Option.some.injEq, Prod.mk.injEq] at H
 obtain ⟨rfl, rfl⟩ := H
 go_enter Try.func81, Try.ntmps81
 go_wp2_with (first | ((with_reducible refine gate_dst (N := 7) rfl ?_); refine box_event ?hg (N := 7) ?hd (cs := #[.slice A0 l0.length c0, .int .i64 0, .int .u64 0]) (t := 68) ?hr ?_; (case hd => rfl); (case hg => rfl); (case hr => first | (go_simp; done) | (go_simp; rfl)); intro gb195 hg w3 hbox hb; have HI195 := Aside0.mk ((⟨_, _, hbox, (by rw [hg]; exact (szB HB) : w.heap.size ≤ gb195), HR0.out⟩ : IsS68 w w3 gb195 l0 0 0)); replace HB := upB HB hb; clear hb hbox hg) | ((with_reducible refine gate_callee (f := 133) rfl ?_); refine goesA (some 9) Try.func133 #[.pointer (some ⟨gb195, 0, none⟩)] ?_; (with_reducible refine (Zbo.calls k gb195 l0 0 0 t196 t199 t202 t203 w _ ?side1 ?side2 A2.out).mono ?_); (case side1 => exact IsS68.at HI195); (case side2 => exact atB HB); rintro e w4 ⟨v197, v200, rfl, ho0, ho1, hi, hb, hk⟩; refine ⟨_, rfl, ?_⟩; have HO198 := lowR ho0 HB; have HO201 := lowR ho1 HB; replace HB := Aside0.mk (hb); replace HI195 := Aside0.mk (hi)))
 go_ret2
 exact ⟨_, _, eqr, atR HO198, atR HO201, atB HB⟩
noncomputable def Zbh.F (l0 : List Int) : Option (List Int × List Int) := lim fun k => Zbh.f k l0
theorem Zbh.F_lim (l0 : List Int) : Lim (fun k => Zbh.f k l0) (Zbh.F l0) := Lim.of fun k => Zbh.mono l0 k
theorem Zbh.F_eq (l0 : List Int) : Zbh.F l0 = ((Zbo.F l0 0 0).bind fun bt196 => (some (bt196.1, bt196.2.1))) :=
 Lim.unique (Zbh.F_lim l0) (by
  unfold Zbh.f
  repeat' (first | (with_reducible first | exact Lim.const _ | exact Zbo.F_lim | refine Lim.ite ?_ ?_ | refine Lim.bind ?_ (fun _ => ?_))))
def Zbe.f (k : Nat) (l0 : List Int) : Option (List Int × List Int) := (Zbh.f k l0).bind fun bt204 => (some (bt204.1, bt204.2))
theorem Zbe.mono : ∀ a0 k, LeO (Zbe.f k a0) (Zbe.f (k + 1) a0) := by
 intro a0 k
 unfold Zbe.f
 repeat' (first | (with_reducible first | exact Zbh.mono _ _ | exact LeO.refl _ | exact LeO.none _ | refine LeO.ite ?_ ?_ | refine LeO.bind ?_ (fun _ => ?_)) | exact Zbh.mono _ _ | exact LeO.none _ | refine LeO.ite ?_ ?_ | refine LeO.bind ?_ (fun _ => ?_))
theorem Zbe.calls (k : Nat) (A0 : Option Addr) (c0 : Nat) (l0 : List Int) (r1 : List Int) (r2 : List Int) (w : World) (hr0 : Kd.C (Kd.int .u8) w A0 l0.length l0) (hc0 : l0.length ≤ c0) (h : Zbe.f k l0 = some (r1, r2)) :
  Calls Try.prog 7 #[.slice A0 l0.length c0] w fun e w' => ∃ v0_ v1_ : Value, e = .returned (.tuple #[v0_, v1_]) ∧ Kd.R (Kd.int .i64) 3 w' w.heap.size (fun k_ => some k_ ≠ (v1_ : Value).ownBlock) v0_ r1 ∧ Kd.R (Kd.int .i64) 3 w' w.heap.size (fun k_ => some k_ ≠ (v0_ : Value).ownBlock) v1_ r2 ∧ Below w.heap.size w w' := by
 have HR0 := Aside0.mk hr0
 have HC0 := Aside0.mk hc0
 clear hr0 hc0
 have HB := Aside0.mk (Below.refl w.heap.size w)
 have H := h
 unfold Zbe.f at H
 clear h
 replace H := Option.bind_eq_some_iff.mp H
 obtain ⟨⟨t204, t205⟩, A20, H⟩ := H
 replace H : (some (t204, t205)) = some (r1, r2) := H
 have A2 := Aside0.mk A20
 clear A20
 simp only [Option.some.injEq, Prod.mk.injEq] at H
 obtain ⟨rfl, rfl⟩ := H
 go_enter Try.func7, Try.ntmps7
 go_wp2_with (first | ((with_reducible refine gate_callee (f := 81) rfl ?_); refine goesA (some 5) Try.func81 #[.slice A0 l0.length c0] ?_; (with_reducible refine (Zbh.calls k _ _ l0 t204 t205 _ ?side1 ?side2 A2.out).mono ?_); (case side1 => repeat (first | exact HR0.out | (with_reducible refine Kd.C_alloc ?_ _) | (with_reducible refine Kd.C_drewN ?_ _) | (with_reducible refine Kd.C_drew ?_))); (case side2 => exact HC0.out); rintro e w3 ⟨v206, v208, rfl, ho0, ho1, hb⟩; refine ⟨_, rfl, ?_⟩; have HO207 := lowR ho0 HB; have HO209 := lowR ho1 HB; replace HB := upB HB hb))
 go_ret2
 exact ⟨_, _, eqr, atR HO207, atR HO209, atB HB⟩
noncomputable def Zbe.F (l0 : List Int) : Option (List Int × List Int) := lim fun k => Zbe.f k l0
theorem Zbe.F_lim (l0 : List Int) : Lim (fun k => Zbe.f k l0) (Zbe.F l0) := Lim.of fun k => Zbe.mono l0 k
theorem Zbe.F_eq (l0 : List Int) : Zbe.F l0 = ((Zbh.F l0).bind fun bt204 => (some (bt204.1, bt204.2))) :=
 Lim.unique (Zbe.F_lim l0) (by
  unfold Zbe.f
  repeat' (first | (with_reducible first | exact Lim.const _ | exact Zbh.F_lim _ | refine Lim.ite ?_ ?_ | refine Lim.bind ?_ (fun _ => ?_))))
def Zap.l0 : Nat → List Int → List (List Int) → Int → Option ((List (List Int)) × Bool)
 | 0, _, _, _ => none
 | k + 1, x0, x4, x5 => if x5 < (x0.length : Int) then (if 0 ≤ x5 then (if x4.length < 5864062014805 then (Zap.l0 k x0 (x4 ++ [(([rd x0 x5, x5] : List Int))]) (wrap64 (x5 + 1))) else (none)) else (none)) else (some (x4, true))
def Zap.f (k : Nat) (l0 : List Int) : Option ((List (List Int)) × Bool) := (Zae.f k l0).bind fun t284 => (if t284 = true then (Zap.l0 k l0 ([] : List (List Int)) 1) else (some (([] : List (List Int)), false)))
theorem Zap.mono_l : ∀ k, (∀ y0 y1 y2, LeO (Zap.l0 k y0 y1 y2) (Zap.l0 (k + 1) y0 y1 y2))
 | 0 => fun _ _ _ r h => by simp [Zap.l0] at h
 | k + 1 => by
  have ih0 := Zap.mono_l k
  ·intro y0 y1 y2
   unfold Zap.l0
   repeat' (first | (with_reducible first | exact ih0 _ _ _ | exact LeO.refl _ | exact LeO.none _ | refine LeO.ite ?_ ?_ | refine LeO.bind ?_ (fun _ => ?_)) | exact ih0 _ _ _ | exact LeO.none _ | refine LeO.ite ?_ ?_ | refine LeO.bind ?_ (fun _ => ?_))
theorem Zap.mono : ∀ a0 k, LeO (Zap.f k a0) (Zap.f (k + 1) a0) := by
 intro a0 k
 have ih0 := Zap.mono_l k
 unfold Zap.f
 repeat' (first | (with_reducible first | exact ih0 _ _ _ | exact Zae.mono _ _ | exact LeO.refl _ | exact LeO.none _ | refine LeO.ite ?_ ?_ | refine LeO.bind ?_ (fun _ => ?_)) | exact ih0 _ _ _ | exact Zae.mono _ _ | exact LeO.none _ | refine LeO.ite ?_ ?_ | refine LeO.bind ?_ (fun _ => ?_))
theorem Zap.calls (k : Nat) (A0 : Option Addr) (c0 : Nat) (l0 : List Int) (r1 : List (List Int)) (r2 : Bool) (w : World) (hr0 : Kd.C (Kd.int .i64) w A0 l0.length l0) (hc0 : l0.length ≤ c0) (h : Zap.f k l0 = some (r1, r2)) :
  Calls Try.prog 16 #[.slice A0 l0.length c0] w fun e w' => ∃ v0_ : Value, e = .returned (.tuple #[v0_, .bool r2]) ∧ Kd.S (Kd.slice 3 (Kd.int .i64)) 24 w' w.heap.size (fun _ => True) v0_ r1 ∧ Below w.heap.size w w' := by
 have HR0 := Aside0.mk hr0
 have HC0 := Aside0.mk hc0
 clear hr0 hc0
 have HB := Aside0.mk (Below.refl w.heap.size w)
 have H := h
 unfold Zap.f at H
 clear h
 replace H := bs_ H
 obtain ⟨t284, A2, H⟩ := H
 (try dsimp only at H)
 by_cases c3 : t284 = true
 rotate_left
 ·replace c3 := Bool.eq_false_iff.mpr c3
  subst c3
  replace H := if_ H
  simp only [Option.some.injEq, Prod.mk.injEq] at H
  obtain ⟨rfl, rfl⟩ := H
  go_enter Try.func16, Try.ntmps16
  go_wp2_with (first | ((with_reducible refine gate_callee (f := 20) rfl ?_); refine goesA (some 7) Try.func20 #[.slice A0 l0.length c0] ?_; (with_reducible refine (Zae.calls k _ _ l0 false _ ?side1 ?side2 A2.out).mono ?_); (case side1 => repeat (first | exact HR0.out | (with_reducible refine Kd.C_alloc ?_ _) | (with_reducible refine Kd.C_drewN ?_ _) | (with_reducible refine Kd.C_drew ?_))); (case side2 => exact HC0.out); rintro e w' ⟨rfl, ⟨nd, rfl⟩⟩; refine ⟨_, rfl, ?_⟩))
  go_ret2
  exact ⟨_, eqr, by first | exact Kd.S_nil _ _ _ _ _ | exact Kd.N_nil _ _ _ _ _ | exact Kd.V_nil _ _ _ _ _ | exact Kd.Q_nil _ _ _ _ _ | exact Kd.R_nil _ _ _ _ _, atB HB⟩
 subst c3
 replace H := it_ H
 have H' := Aside0.mk H
 clear H
 go_enter Try.func16, Try.ntmps16
 go_wp2_with (first | ((with_reducible refine gate_callee (f := 20) rfl ?_); refine goesA (some 7) Try.func20 #[.slice A0 l0.length c0] ?_; (with_reducible refine (Zae.calls k _ _ l0 true _ ?side1 ?side2 A2.out).mono ?_); (case side1 => repeat (first | exact HR0.out | (with_reducible refine Kd.C_alloc ?_ _) | (with_reducible refine Kd.C_drewN ?_ _) | (with_reducible refine Kd.C_drew ?_))); (case side2 => exact HC0.out); rintro e w' ⟨rfl, ⟨nd, rfl⟩⟩; refine ⟨_, rfl, ?_⟩))
 go_loopg [4, 5] k (fun kq v4 v5 w' => ∃ (x4_1 : List (List Int)) (x5_1 : Int), v5 = .int .i64 x5_1 ∧ Aside0 (Zap.l0 kq l0 x4_1 x5_1 = some (r1, r2)) ∧ Aside0 (kq ≤ k) ∧ Aside0 (Kd.S (Kd.slice 3 (Kd.int .i64)) 24 w' w.heap.size (fun _ => True) v4 x4_1) ∧ Aside0 (Below w.heap.size w w'))
 case atStart => exact ⟨(([] : List (List Int))), (1), eqd, H', ⟨Nat.le_refl _⟩, ⟨by first | exact Kd.S_nil _ _ _ _ _ | exact Kd.N_nil _ _ _ _ _ | exact Kd.V_nil _ _ _ _ _ | exact Kd.Q_nil _ _ _ _ _ | exact Kd.R_nil _ _ _ _ _⟩, ⟨atB HB⟩⟩
 case round =>
  clear H'
  try clear c3
  obtain ⟨x4_1, x5_1, rfl, HA, HK1, HO_4, HB⟩ := hrel
  cases gk with
  | zero => exact absurd HA.out (by simp [Zap.l0])
  | succ k1 =>
   have H := HA.out
   clear HA
   simp only [Zap.l0] at H
   by_cases c4 : x5_1 < (l0.length : Int)
   rotate_left
   ·rw [if_neg c4] at H
    have c4b0 := decide_eq_false c4
    clear c4
    simp only [Option.some.injEq, Prod.mk.injEq] at H
    obtain ⟨rfl, rfl⟩ := H
    go_wp2
    go_ret2
    exact ⟨_, eqr, atS HO_4, atB HB⟩
   rw [if_pos c4] at H
   have c4b0 := decide_eq_true c4
   clear c4
   obtain ⟨c5b0, H⟩ := in_ H
   obtain ⟨y286, hy286⟩ : ∃ y_ : List Int, y_ = (([rd l0 x5_1, x5_1] : List Int)) := ⟨_, rfl⟩
   replace H : (if x4_1.length < 5864062014805 then (Zap.l0 k1 l0 (x4_1 ++ [y286]) (wrap64 (x5_1 + 1))) else (none)) = some (r1, r2) := by first | (rw [hy286]; with_reducible exact H) | (have H2_ := (Option.bind_some _ _).symm.trans H; rw [hy286]; with_reducible exact H2_) | (have H2_ := (Option.bind_some _ _).symm.trans H; with_reducible exact H2_) | with_reducible exact H | (rw [hy286]; exact H) | exact H
   have Ny286 := Aside0.mk hy286
   clear hy286
   obtain ⟨c6, H⟩ := in0_ H
   have LMc6 := Aside0.mk c6
   clear c6
   obtain ⟨y289, hy289⟩ : ∃ y_ : List (List Int), y_ = (x4_1 ++ [y286]) := ⟨_, rfl⟩
   replace H : (Zap.l0 k1 l0 y289 (wrap64 (x5_1 + 1))) = some (r1, r2) := by first | (rw [hy289]; with_reducible exact H) | (have H2_ := (Option.bind_some _ _).symm.trans H; rw [hy289]; with_reducible exact H2_) | (have H2_ := (Option.bind_some _ _).symm.trans H; with_reducible exact H2_) | with_reducible exact H | (rw [hy289]; exact H) | exact H
   have Ny289 := Aside0.mk hy289
   clear hy289
   have H' := Aside0.mk H
   clear H
   have p285 : 0 ≤ (x5_1 : Int) := ofd
   have q285 : x5_1 < (l0.length : Int) := ofd
   obtain ⟨ad285, e285, hx285_0⟩ := Kd.at_int HR0.out x5_1 p285 q285
   cases e285
   (try replace hx285_0 := (HB.out.cell (World.block_lt_of_cell? w _ hx285_0)).trans hx285_0)
   replace p285 := eq_true p285
   replace q285 := eq_true q285
   go_wp2_with (first | ((with_reducible refine gate_dst (N := 21) rfl ?_); refine Kd.R_lit (Kd.int .i64) _ 3 ?hg (N := 21) ?hd (xs := ([rd l0 x5_1, x5_1] : List Int)) (inner := [.int .i64 (rd l0 x5_1), .int .i64 x5_1]) (ok := fun _ => True) (okp := fun _ => True) ?hr ?hp (fun _ hk => hk) trivial (Below.refl _ _) (Nat.le_refl _) (by simp) ?_; (case hd => rfl); (case hg => rfl); (case hr => first | (go_simp; done) | (go_simp; rfl)); (case hp => exact repsI _); intro v287 w7 ho8 hb hg_ hnew_; clear hg_ hnew_; (first | rw [← Ny286.out] at ho8 | (simp only [Int.reduceToNat] at ho8; rw [← Ny286.out] at ho8)); have HO288 := lowR ho8 HB; replace HO_4 := eldSR HO_4 ho8 hb; replace HB := upB HB hb; clear hb ho8; obtain ⟨Ao10, co10, eo10⟩ := Kd.R_slice HO288.out; subst eo10) | ((with_reducible refine gate_builtin (b := .append) (xs := #[.tmp 15, .tmp 22]) rfl ?_); at_builtin; refine Kd.S_append (Kd.slice 3 (Kd.int .i64)) (w0 := w) w.heap.size rfl (.tmp 15) (.tmp 22) 33 24 (.slice none 0 0) 24 rfl Try.underlying33 info24 rfl (by decide) (by omega) u4 x4_1 y286 [.slice Ao10 y286.length co10] (fun _ => True) (fun k_ => some k_ = (.slice Ao10 y286.length co10 : Value).ownBlock) rfl rfl ?aP (fun k_ hk_ => ((Kd.R_mono (ok' := fun k_ => ((fun _ => True)) k_ ∧ some k_ ≠ (u4 : Value).ownBlock) (Kd.R_apart' (HO288.out) (Kd.S_typed HO_4.out) (by decide)) (fun k_ hk => ⟨trivial, hk.2⟩))).1 k_ hk_.symm) ?aF ?aO ?aB ?aS ?aL ?_; (case aP => exact Kd.M_row (Kd.R_mono (Kd.R_tight rfl (Kd.R_mono (ok' := fun k_ => ((fun _ => True)) k_ ∧ some k_ ≠ (u4 : Value).ownBlock) (Kd.R_apart' (HO288.out) (Kd.S_typed HO_4.out) (by decide)) (fun k_ hk => ⟨trivial, hk.2⟩))) (fun _ h_ => h_))); (case aB => exact (atB HB)); (case aF => exact (fun _ _ => trivial)); (case aO => exact (by (with_reducible repeat (first | apply Kd.S_alloc | apply Kd.S_drewN | apply Kd.S_drew)); exact Kd.S_mono HO_4.out (fun k_ hk => ⟨trivial, fun e_ => hk.2 e_⟩))); (case aS => exact (szB HB)); (case aL => have := LMc6.out; omega); intro v290 w9 ho hb hg hat; rw [← Ny289.out] at ho; have HO291 := Aside0.mk (ho); replace HB := Aside0.mk (hb); clear HO_4 HO288; clear ho hb hg hat))
   go_roundg k1
   case measure => have := HK1.out; omega
   case rel => exact ⟨(y289), (wrap64 (x5_1 + 1)), eqd, H', ⟨by have := HK1.out; omega⟩, ⟨atS HO291⟩, ⟨atB HB⟩⟩
noncomputable def Zap.L0 (x0 : List Int) (x4 : List (List Int)) (x5 : Int) : Option ((List (List Int)) × Bool) := lim fun k => Zap.l0 k x0 x4 x5
theorem Zap.L0_lim (x0 : List Int) (x4 : List (List Int)) (x5 : Int) : Lim (fun k => Zap.l0 k x0 x4 x5) (Zap.L0 x0 x4 x5) := Lim.of fun k => (Zap.mono_l k) x0 x4 x5
noncomputable def Zap.F (l0 : List Int) : Option ((List (List Int)) × Bool) := lim fun k => Zap.f k l0
theorem Zap.F_lim (l0 : List Int) : Lim (fun k => Zap.f k l0) (Zap.F l0) := Lim.of fun k => Zap.mono l0 k
theorem Zap.L0_eq (x0 : List Int) (x4 : List (List Int)) (x5 : Int) : Zap.L0 x0 x4 x5 = (if x5 < (x0.length : Int) then (if 0 ≤ x5 then (if x4.length < 5864062014805 then (Zap.L0 x0 (x4 ++ [(([rd x0 x5, x5] : List Int))]) (wrap64 (x5 + 1))) else (none)) else (none)) else (some (x4, true))) :=
 Lim.step (f := fun k => Zap.l0 (k + 1) x0 x4 x5) (Zap.L0_lim x0 x4 x5) (fun _ => rfl) (by
  simp only [Zap.l0]
  repeat' (first | (with_reducible first | exact Lim.const _ | exact Zap.L0_lim _ _ _ | refine Lim.ite ?_ ?_ | refine Lim.bind ?_ (fun _ => ?_))))
theorem Zap.F_eq (l0 : List Int) : Zap.F l0 = ((Zae.F l0).bind fun t284 => (if t284 = true then (Zap.L0 l0 ([] : List (List Int)) 1) else (some (([] : List (List Int)), false)))) :=
 Lim.unique (Zap.F_lim l0) (by
  unfold Zap.f
  repeat' (first | (with_reducible first | exact Lim.const _ | exact Zap.L0_lim _ _ _ | exact Zae.F_lim _ | refine Lim.ite ?_ ?_ | refine Lim.bind ?_ (fun _ => ?_))))
end Go.Proofs.Ytnhnpplccfojeaa.Fn
