/- The machine's side and plain lemmas for FnExactAllExtended: texts of this session, merged by its program (part 0). -/
import Derived.Test.YtmhcgihkijiecaaWWords
import Derived.Test.YtmhcgihkijiecaaWMore
import Derived.Test.YtmhcgihkijiecaaWLast
import Derived.Test.YtmhcgihkijiecaaProg
import Derived.Below
import Derived.Deep.Draws
import Derived.Deep.AppendLies
import Derived.Maps.AppendAt
import Derived.OwnWalk
import Derived.Laws.BytesArg
import Derived.Laws.MakeOwn
import Derived.Laws.OwnMore
import Derived.Deep.OwnRows
import Derived.Tactics
import Derived.Lib.ConvBytes
import Derived.Laws.Slices
import Derived.WalkKit
import Derived.KernelRfl
import Derived.RowKit3
import Derived.Deep.LoopGhost
import Derived.Deep.QuietTactic
import Derived.BigQuiet
import Derived.WideLaws
import Derived.Deep.DeepCutAuto
import Derived.Deep.CutBlock
import Derived.Deep.RegionHeld3
import Derived.Laws.Rows
import Derived.Lib.AppendStr
import Derived.ArgAppend
import Derived.Laws.IdiomCopy
import Derived.OrdersHeld
import Derived.Laws.BitsLemmas
import Derived.RowKit
import Derived.Test.YtmhcgihkijiecaaWTab
import Derived.Test.YtmhcgihkijiecaaWFour
import Derived.Test.YtmhcgihkijiecaaWQPut
import Derived.Test.YtmhcgihkijiecaaWApart
import Derived.Test.YtmhcgihkijiecaaWArr
import Derived.Test.YtmhcgihkijiecaaWZeros
import Derived.Test.YtmhcgihkijiecaaWFoot
import Derived.Test.YtmhcgihkijiecaaWKept
import Derived.Test.YtmhcgihkijiecaaWShare
import Derived.Test.YtmhcgihkijiecaaWN
import Derived.Test.YtmhcgihkijiecaaWFootNe
import Derived.Test.YtmhcgihkijiecaaWAt
import Derived.Test.YtmhcgihkijiecaaWEqStruct
import Derived.Test.YtmhcgihkijiecaaWRepsOne
import Derived.Test.YtmhcgihkijiecaaWInv
import Derived.Test.YtmhcgihkijiecaaWInvWords
import Derived.Test.YtmhcgihkijiecaaWGuard
import Derived.Test.YtmhcgihkijiecaaWNEv
import Derived.Lib.SliceRun
namespace Go.Proofs.Ytmhcgihkijiecaa.Fn
open Go.RowKit Go.Proofs.YtmhcgihkijiecaaW.PrintWords Go.Proofs.YtmhcgihkijiecaaW.PrintLast

/-- What a function with rounds comes to; none where it comes to nothing. -/
noncomputable def lim {α : Type} (g : Nat → Option α) : Option α := open Classical in if h : ∃ k r, g k = some r then g (Classical.choose h) else none
/-- g gives more with more rounds, and comes to a. -/
structure Lim {α : Type} (g : Nat → Option α) (a : Option α) : Prop where
  mono : ∀ k, LeO (g k) (g (k + 1))
  comes : ∀ r, a = some r ↔ ∃ k, g k = some r
theorem lim_some {α : Type} {g : Nat → Option α} (hg : ∀ k, LeO (g k) (g (k + 1))) (r : α) : lim g = some r ↔ ∃ k, g k = some r := by
  unfold lim
  constructor
  · intro h
    split at h
    · exact ⟨_, h⟩
    · cases h
  · rintro ⟨k, hk⟩
    have hx : ∃ k r, g k = some r := ⟨k, r, hk⟩
    rw [dif_pos hx]
    obtain ⟨r', hr'⟩ := Classical.choose_spec hx
    have h1 := at_rounds hg (Nat.le_max_left k (Classical.choose hx)) hk
    have h2 := at_rounds hg (Nat.le_max_right k (Classical.choose hx)) hr'
    rw [h1] at h2
    rw [hr', h2]
theorem Lim.of {α : Type} {g : Nat → Option α} (hg : ∀ k, LeO (g k) (g (k + 1))) : Lim g (lim g) := ⟨hg, lim_some hg⟩
theorem Lim.unique {α : Type} {g : Nat → Option α} {a b : Option α} (ha : Lim g a) (hb : Lim g b) : a = b := by
  have h : ∀ r, a = some r ↔ b = some r := fun r => (ha.comes r).trans (hb.comes r).symm
  cases a with
  | none =>
    cases b with
    | none => rfl
    | some r => exact absurd ((h r).2 rfl) (by simp)
  | some r => exact ((h r).1 rfl).symm
theorem Lim.const {α : Type} (a : Option α) : Lim (fun _ => a) a := ⟨fun _ => LeO.refl _, fun _ => ⟨fun h => ⟨0, h⟩, fun ⟨_, h⟩ => h⟩⟩
theorem Lim.ite {α : Type} {c : Prop} [Decidable c] {g f : Nat → Option α} {a b : Option α} (hg : Lim g a) (hf : Lim f b) : Lim (fun k => if c then g k else f k) (if c then a else b) := by
  by_cases h : c
  · simp only [if_pos h]
    exact hg
  · simp only [if_neg h]
    exact hf
theorem Lim.bind {α β : Type} {g : Nat → Option α} {f : Nat → α → Option β} {a : Option α} {b : α → Option β} (hg : Lim g a) (hf : ∀ x, Lim (fun k => f k x) (b x)) : Lim (fun k => (g k).bind (f k)) (a.bind b) := by
  refine ⟨fun k => LeO.bind (hg.mono k) (fun x => (hf x).mono k), fun r => ⟨fun h => ?_, fun ⟨k, h⟩ => ?_⟩⟩
  · obtain ⟨x, hx, hb⟩ := Option.bind_eq_some_iff.1 h
    obtain ⟨k, hk⟩ := (hg.comes x).1 hx
    obtain ⟨k', hk'⟩ := ((hf x).comes r).1 hb
    refine ⟨max k k', Option.bind_eq_some_iff.2 ⟨x, at_rounds hg.mono (Nat.le_max_left _ _) hk, ?_⟩⟩
    exact at_rounds (g := fun k => f k x) (hf x).mono (Nat.le_max_right _ _) hk'
  · obtain ⟨x, hx, hb⟩ := Option.bind_eq_some_iff.1 h
    exact Option.bind_eq_some_iff.2 ⟨x, (hg.comes x).2 ⟨k, hx⟩, ((hf x).comes r).2 ⟨k, hb⟩⟩
/-- One round of a loop: what stands behind it comes to the same. -/
theorem Lim.step {α : Type} {g f : Nat → Option α} {a b : Option α} (ha : Lim g a) (hs : ∀ k, g (k + 1) = f k) (hf : Lim f b) : a = b := by
  refine Lim.unique (g := f) ⟨hf.mono, fun r => (ha.comes r).trans ⟨fun ⟨k, h⟩ => ⟨k, ?_⟩, fun ⟨k, h⟩ => ⟨k + 1, (hs k).trans h⟩⟩⟩ hf
  rw [← hs]
  exact ha.mono k r h
theorem Lim.rounds {α : Type} {g : Nat → Option α} {a : Option α} {r : α} (h : Lim g a) (e : a = some r) : ∃ k, g k = some r := (h.comes r).1 e

/-! ### loops over a list -/
theorem wrap_in {n : Int} (h0 : -9223372036854775808 ≤ n) (h1 : n ≤ 9223372036854775807) : wrap64 n = n := by
  unfold wrap64
  omega
theorem rd_mid (pre : List Int) (x : Int) (suf : List Int) : rd (pre ++ x :: suf) (pre.length : Int) = x := by
  unfold rd
  simp
theorem rd_nat (l : List Int) (i : Nat) (h : i < l.length) : rd l (i : Int) = l[i] := by
  unfold rd
  simp [List.getD_eq_getElem?_getD, List.getElem?_eq_getElem h]
theorem range_step {α : Type} {pre : List Int} {x : Int} {suf : List Int} {b n1 n2 e : α} : (if (pre.length : Int) < ((pre ++ x :: suf).length : Int) then (if 0 ≤ (pre.length : Int) then (if (pre.length : Int) < ((pre ++ x :: suf).length : Int) then b else n1) else n2) else e) = b := by
  have h : (pre.length : Int) < ((pre ++ x :: suf).length : Int) := by rw [List.length_append, List.length_cons]; omega
  rw [if_pos h, if_pos (by omega), if_pos h]
theorem range_end {α : Type} {pre : List Int} {b e : α} : (if (pre.length : Int) < ((pre ++ []).length : Int) then b else e) = e := by
  rw [if_neg (by simp)]
theorem wrap_mid {pre : List Int} {x : Int} {suf : List Int} (h : (pre ++ x :: suf).length < 4611686018427387904) : wrap64 ((pre.length : Int) + 1) = ((pre ++ [x]).length : Int) := by
  have h1 : pre.length + 1 ≤ (pre ++ x :: suf).length := by rw [List.length_append, List.length_cons]; omega
  rw [wrap_in (by omega) (by omega)]
  simp
theorem app_mid (pre : List Int) (x : Int) (suf : List Int) : pre ++ x :: suf = (pre ++ [x]) ++ suf := by simp
/-- What is held up to here is nothing; from here on it is S'. -/
theorem weak_ {P : Program} {md : Region.Mode} {ops : Array Oper} {Q : Exit → Act → World → Prop} {S' : World → Prop} {ds : List Nat} : ∀ {fuel : Nat} {l : Array Bool} {a : Act} {w : World}, wpAnyLast P md ops Q S' ds fuel l a w → wpAnyLast P md ops Q (fun _ => True) ds fuel l a w
  | 0, _, _, _, h => h
  | _ + 1, _, _, _, h => ⟨h.1, fun i hi => wpOp_mono (fun _ _ h' => ⟨fun _ _ => trivial, weak_ h'.2⟩) (h.2 i hi)⟩
end Go.Proofs.Ytmhcgihkijiecaa.Fn
namespace Go.Proofs.Ytmhcgihkijiecaa.Fn
open Go.RowKit Go.Proofs.YtmhcgihkijiecaaW.PrintWords Go.Proofs.YtmhcgihkijiecaaW.PrintLast Go.Proofs.YtmhcgihkijiecaaW.PrintMore
attribute [local go_sem] max2_int min2_int max_two min_two max_three min_three max_four min_four   -- for this text's walks alone
set_option linter.unusedVariables false
set_option linter.unusedSimpArgs false



def errW : Option Int → Value
  | none => .nilIface
  | some c => .iface 0 (.int .i64 c)
theorem errW_none : errW none = .nilIface := rfl
theorem errW_some (c : Int) : errW (some c) = .iface 0 (.int .i64 c) := rfl

theorem info3 : (Try.prog.info? 3).map (fun i => (i.zero, i.size, i.bytes)) = some (some (.int .i64 0), 1, 8) := by kernel_rfl
theorem info25 : (Try.prog.info? 25).map (fun i => (i.zero, i.size, i.bytes)) = some (some (.slice none 0 0), 1, 24) := by kernel_rfl
-- the values' own types
def rd_L1 (xs : List (List Int)) (i : Int) : (List Int) := xs.getD i.toNat ([] : List Int)
theorem at_L1 {w : World} {A : Option Addr} {n : Nat} {xs : List (List Int)} (h : Kd.C (Kd.slice 3 (Kd.int .i64)) w A n xs) (i : Int) (h0 : 0 ≤ i) (h1 : i < n) : ∃ ad A0 c0, A = some ad ∧ w.cell? (ad.add i.toNat) = some (.slice A0 (rd_L1 xs i).length c0) ∧ (rd_L1 xs i).length ≤ c0 ∧ (Kd.int .i64).C w A0 (rd_L1 xs i).length (rd_L1 xs i) := by
  obtain ⟨ad, c, e, _, hK, hc0⟩ := Kd.C_get h ([] : List Int) i h0 h1
  have hc : ∀ j u, c[j]? = some u → w.cell? (ad.add (i.toNat * 1 + j)) = some u := hc0
  obtain ⟨A0, c0, rfl, l0, g0⟩ := hK
  exact ⟨ad, A0, c0, e, by have hq := hc 0 _ rfl; rwa [Nat.mul_one, Nat.add_zero] at hq, l0, g0⟩

def rd_L2 (xs : List (List (List Int))) (i : Int) : (List (List Int)) := xs.getD i.toNat ([] : List (List Int))
theorem at_L2 {w : World} {A : Option Addr} {n : Nat} {xs : List (List (List Int))} (h : Kd.C (Kd.slice 25 (Kd.slice 3 (Kd.int .i64))) w A n xs) (i : Int) (h0 : 0 ≤ i) (h1 : i < n) : ∃ ad A0 c0, A = some ad ∧ w.cell? (ad.add i.toNat) = some (.slice A0 (rd_L2 xs i).length c0) ∧ (rd_L2 xs i).length ≤ c0 ∧ (Kd.slice 3 (Kd.int .i64)).C w A0 (rd_L2 xs i).length (rd_L2 xs i) := by
  obtain ⟨ad, c, e, _, hK, hc0⟩ := Kd.C_get h ([] : List (List Int)) i h0 h1
  have hc : ∀ j u, c[j]? = some u → w.cell? (ad.add (i.toNat * 1 + j)) = some u := hc0
  obtain ⟨A0, c0, rfl, l0, g0⟩ := hK
  exact ⟨ad, A0, c0, e, by have hq := hc 0 _ rfl; rwa [Nat.mul_one, Nat.add_zero] at hq, l0, g0⟩

end Go.Proofs.Ytmhcgihkijiecaa.Fn
namespace Go.Proofs.Ytmhcgihkijiecaa.Fn
open Go.RowKit Go.Proofs.YtmhcgihkijiecaaW.PrintWords Go.Proofs.YtmhcgihkijiecaaW.PrintLast Go.Proofs.YtmhcgihkijiecaaW.PrintMore
attribute [local go_sem] max2_int min2_int max_two min_two max_three min_three max_four min_four   -- for this text's walks alone
set_option linter.unusedVariables false
set_option linter.unusedSimpArgs false

/-! ### slices_Index_int_int: function 89 -/
def slices_Index_int_int.l0 : Nat → List Int → Int → Int → Int → Option (Int)
  | 0, _, _, _, _ => none
  | k + 1, x0, x1, x7, x8 => if x8 < x7 then (if 0 ≤ x8 then (if x8 < (x0.length : Int) then (if x1 = (rd x0 x8) then (some x8) else (slices_Index_int_int.l0 k x0 x1 x7 (wrap64 (x8 + 1)))) else (none)) else (none)) else (some (-1))
def slices_Index_int_int.f (k : Nat) (l0 : List Int) (a1 : Int) : Option (Int) := slices_Index_int_int.l0 k l0 a1 (l0.length : Int) 0
theorem slices_Index_int_int.mono_l : ∀ k, (∀ y0 y1 y2 y3, LeO (slices_Index_int_int.l0 k y0 y1 y2 y3) (slices_Index_int_int.l0 (k + 1) y0 y1 y2 y3))
  | 0 => fun _ _ _ _ r h => by simp [slices_Index_int_int.l0] at h
  | k + 1 => by
    have ih0 := slices_Index_int_int.mono_l k
    · intro y0 y1 y2 y3
      unfold slices_Index_int_int.l0
      repeat' first
      | (with_reducible exact ih0 _ _ _ _)
      | (with_reducible exact LeO.refl _)
      | (with_reducible exact LeO.none _)
      | (with_reducible refine LeO.ite ?_ ?_)
      | (with_reducible refine LeO.bind ?_ (fun _ => ?_))
      | exact ih0 _ _ _ _
      | exact LeO.none _
      | refine LeO.ite ?_ ?_
      | refine LeO.bind ?_ (fun _ => ?_)
theorem slices_Index_int_int.mono : ∀ a0 a1 k, LeO (slices_Index_int_int.f k a0 a1) (slices_Index_int_int.f (k + 1) a0 a1) := by
  intro a0 a1 k
  have ih0 := slices_Index_int_int.mono_l k
  unfold slices_Index_int_int.f
  repeat' first
      | (with_reducible exact ih0 _ _ _ _)
      | (with_reducible exact LeO.refl _)
      | (with_reducible exact LeO.none _)
      | (with_reducible refine LeO.ite ?_ ?_)
      | (with_reducible refine LeO.bind ?_ (fun _ => ?_))
      | exact ih0 _ _ _ _
      | exact LeO.none _
      | refine LeO.ite ?_ ?_
      | refine LeO.bind ?_ (fun _ => ?_)
set_option maxHeartbeats 8000000 in
set_option maxRecDepth 100000 in
theorem slices_Index_int_int.calls (k : Nat) (A0 : Option Addr) (c0 : Nat) (l0 : List Int) (a1 : Int) (r : Int) (w : World) (hr0 : Kd.C (Kd.int .i64) w A0 l0.length l0) (hc0 : l0.length ≤ c0) (h : slices_Index_int_int.f k l0 a1 = some r) :
    Calls Try.prog 89 #[.slice A0 l0.length c0, .int .i64 a1] w fun e w' => e = .returned (.int .i64 r) ∧ Drawn0 w w' := by
  have HR0 := Aside0.mk hr0
  have HC0 := Aside0.mk hc0
  clear hr0 hc0
  have H : (slices_Index_int_int.l0 k l0 a1 (l0.length : Int) 0) = some r := h
  clear h
  have H' := Aside0.mk H
  clear H
  go_enter Try.func89, Try.ntmps89
  go_wp2
  go_loopg [8] k (fun kq v8 w' => ∃ (x8_1 : Int), v8 = .int .i64 x8_1 ∧ Aside0 (slices_Index_int_int.l0 kq l0 a1 (l0.length : Int) x8_1 = some r) ∧ Aside0 (kq ≤ k) ∧ Drawn0 w w')
  case atStart => exact ⟨(0), (by first | rfl | (simp; done) | (simp [*]; done)), H', ⟨Nat.le_refl _⟩, by repeat (first | exact Drawn0.refl _ | apply Drawn0.step)⟩
  case round =>
    clear H'
    try clear p2
    obtain ⟨x8_1, rfl, HA, HK1, ⟨m1, rfl⟩⟩ := hrel
    cases gk with
    | zero => exact absurd HA.out (by simp [slices_Index_int_int.l0])
    | succ k1 =>
      have H := HA.out
      clear HA
      simp only [slices_Index_int_int.l0] at H
      by_cases c3 : x8_1 < (l0.length : Int)
      · rw [if_pos c3] at H
        have c3b0 : decide (x8_1 < (l0.length : Int)) = true := decide_eq_true c3
        clear c3
        by_cases c4 : 0 ≤ x8_1
        · rw [if_pos c4] at H
          have c4b0 : decide (0 ≤ x8_1) = true := decide_eq_true c4
          clear c4
          by_cases c5 : x8_1 < (l0.length : Int)
          · rw [if_pos c5] at H
            have c5b0 : decide (x8_1 < (l0.length : Int)) = true := decide_eq_true c5
            clear c5
            by_cases c6 : a1 = (rd l0 x8_1)
            · rw [if_pos c6] at H
              have c6b0 : (a1 == (rd l0 x8_1)) = true := beq_iff_eq.mpr c6
              have c6b1 : (a1 != (rd l0 x8_1)) = false := bne_eq_false_iff_eq.mpr c6
              clear c6
              obtain rfl := Option.some.inj H
              have p259 : 0 ≤ (x8_1 : Int) := of_decide_eq_true (by first | (with_reducible assumption) | assumption)
              have q259 : x8_1 < (l0.length : Int) := of_decide_eq_true (by first | (with_reducible assumption) | assumption)
              obtain ⟨ad259, e259, hx259_0⟩ := Kd.at_int HR0.out x8_1 p259 q259
              cases e259
              replace p259 := eq_true p259
              replace q259 := eq_true q259
              go_wp2
              go_ret
              exact ⟨by first | rfl | (simp; done) | (simp [*]; done), by repeat (first | exact Drawn0.refl _ | apply Drawn0.step)⟩
            · rw [if_neg c6] at H
              have c6b0 : (a1 == (rd l0 x8_1)) = false := beq_eq_false_iff_ne.mpr c6
              have c6b1 : (a1 != (rd l0 x8_1)) = true := bne_iff_ne.mpr c6
              have H' := Aside0.mk H
              clear H
              have p259 : 0 ≤ (x8_1 : Int) := of_decide_eq_true (by first | (with_reducible assumption) | assumption)
              have q259 : x8_1 < (l0.length : Int) := of_decide_eq_true (by first | (with_reducible assumption) | assumption)
              obtain ⟨ad259, e259, hx259_0⟩ := Kd.at_int HR0.out x8_1 p259 q259
              cases e259
              replace p259 := eq_true p259
              replace q259 := eq_true q259
              go_wp2
              go_roundg k1
              case measure => have := HK1.out; omega
              case rel => exact ⟨(wrap64 (x8_1 + 1)), (by first | rfl | (simp; done) | (simp [*]; done)), H', ⟨by have := HK1.out; omega⟩, by repeat (first | exact Drawn0.refl _ | apply Drawn0.step)⟩
          · rw [if_neg c5] at H
            exact absurd H (by simp)
        · rw [if_neg c4] at H
          exact absurd H (by simp)
      · rw [if_neg c3] at H
        have c3b0 : decide (x8_1 < (l0.length : Int)) = false := decide_eq_false c3
        clear c3
        obtain rfl := Option.some.inj H
        go_wp2
        go_ret
        exact ⟨by first | rfl | (simp; done) | (simp [*]; done), by repeat (first | exact Drawn0.refl _ | apply Drawn0.step)⟩

noncomputable def slices_Index_int_int.L0 (x0 : List Int) (x1 : Int) (x7 : Int) (x8 : Int) : Option (Int) := lim fun k => slices_Index_int_int.l0 k x0 x1 x7 x8
theorem slices_Index_int_int.L0_lim (x0 : List Int) (x1 : Int) (x7 : Int) (x8 : Int) : Lim (fun k => slices_Index_int_int.l0 k x0 x1 x7 x8) (slices_Index_int_int.L0 x0 x1 x7 x8) := Lim.of fun k => (slices_Index_int_int.mono_l k) x0 x1 x7 x8
noncomputable def slices_Index_int_int.F (l0 : List Int) (a1 : Int) : Option (Int) := lim fun k => slices_Index_int_int.f k l0 a1
theorem slices_Index_int_int.F_lim (l0 : List Int) (a1 : Int) : Lim (fun k => slices_Index_int_int.f k l0 a1) (slices_Index_int_int.F l0 a1) := Lim.of fun k => slices_Index_int_int.mono l0 a1 k
theorem slices_Index_int_int.L0_eq (x0 : List Int) (x1 : Int) (x7 : Int) (x8 : Int) : slices_Index_int_int.L0 x0 x1 x7 x8 = (if x8 < x7 then (if 0 ≤ x8 then (if x8 < (x0.length : Int) then (if x1 = (rd x0 x8) then (some x8) else (slices_Index_int_int.L0 x0 x1 x7 (wrap64 (x8 + 1)))) else (none)) else (none)) else (some (-1))) :=
  Lim.step (f := fun k => (if x8 < x7 then (if 0 ≤ x8 then (if x8 < (x0.length : Int) then (if x1 = (rd x0 x8) then (some x8) else (slices_Index_int_int.l0 k x0 x1 x7 (wrap64 (x8 + 1)))) else (none)) else (none)) else (some (-1)))) (slices_Index_int_int.L0_lim x0 x1 x7 x8) (fun k => by first | rfl | rw [slices_Index_int_int.l0]) (by
    repeat' first
    | (with_reducible exact Lim.const _)
    | (with_reducible exact slices_Index_int_int.L0_lim _ _ _ _)
    | (with_reducible refine Lim.ite ?_ ?_)
    | (with_reducible refine Lim.bind ?_ (fun _ => ?_)))
theorem slices_Index_int_int.F_eq (l0 : List Int) (a1 : Int) : slices_Index_int_int.F l0 a1 = (slices_Index_int_int.L0 l0 a1 (l0.length : Int) 0) :=
  Lim.unique (slices_Index_int_int.F_lim l0 a1) (by
    unfold slices_Index_int_int.f
    repeat' first
    | (with_reducible exact Lim.const _)
    | (with_reducible exact slices_Index_int_int.L0_lim _ _ _ _)
    | (with_reducible refine Lim.ite ?_ ?_)
    | (with_reducible refine Lim.bind ?_ (fun _ => ?_)))

end Go.Proofs.Ytmhcgihkijiecaa.Fn
namespace Go.Proofs.Ytmhcgihkijiecaa.Fn
open Go.RowKit Go.Proofs.YtmhcgihkijiecaaW.PrintWords Go.Proofs.YtmhcgihkijiecaaW.PrintLast Go.Proofs.YtmhcgihkijiecaaW.PrintMore
attribute [local go_sem] max2_int min2_int max_two min_two max_three min_three max_four min_four   -- for this text's walks alone
set_option linter.unusedVariables false
set_option linter.unusedSimpArgs false

/-! ### impl_fill: function 94 (given) -/
/-! ### the search: fill, with whatever function it calls -/
/-- The first free place; the row's length where there is none. -/
def freeAt : List Int → Nat
  | [] => 0
  | x :: l => if x = -1 then 0 else freeAt l + 1
theorem freeAt_le : ∀ l : List Int, freeAt l ≤ l.length
  | [] => Nat.le_refl _
  | x :: l => by
    have := freeAt_le l
    unfold freeAt
    split
    · simp
    · simp; omega
theorem freeAt_rd : ∀ l : List Int, freeAt l < l.length → rd l (freeAt l) = -1
  | [], h => by simp at h
  | x :: l, h => by
    unfold freeAt at h ⊢
    split
    · rename_i hx
      simp [rd, hx]
    · rename_i hx
      rw [if_neg hx] at h
      have := freeAt_rd l (by simpa using h)
      simpa [rd] using this
theorem index_free : ∀ (suf pre : List Int), (pre ++ suf).length < 4611686018427387904 → slices_Index_int_int.L0 (pre ++ suf) (-1) ((pre ++ suf).length : Int) (pre.length : Int) = some (if freeAt suf = suf.length then -1 else ((pre.length + freeAt suf : Nat) : Int))
  | [], pre, h => by
    rw [slices_Index_int_int.L0_eq, range_end]
    rfl
  | x :: suf, pre, h => by
    have e : (pre ++ [x]).length = pre.length + 1 := by simp
    rw [slices_Index_int_int.L0_eq, range_step, rd_mid, wrap_mid h, app_mid pre x suf, index_free suf (pre ++ [x]) (by simpa using h), e]
    by_cases hx : x = -1
    · rw [if_pos hx.symm]
      simp [freeAt, hx]
    · rw [if_neg (fun h => hx h.symm)]
      simp only [freeAt, if_neg hx, List.length_cons, Nat.add_right_cancel_iff]
      split
      · rfl
      · congr 2
        omega
theorem index_free_some (l : List Int) (h : l.length < 4611686018427387904) : ∃ k, slices_Index_int_int.f k l (-1) = some (if freeAt l = l.length then -1 else (freeAt l : Int)) := by
  refine Lim.rounds (slices_Index_int_int.F_lim l (-1)) ?_
  rw [slices_Index_int_int.F_eq]
  have := index_free l [] (by simpa using h)
  simpa using this
/-- The numbers that are left, from the i-th on: each that fits is put, what follows is looked for, and it is taken away again. -/
def fillLoop {σ : Type} (rec : σ → List Int → List Int → Option (σ × Bool)) (row told left : List Int) (shift : Int) : Nat → Nat → σ → Option (σ × Bool)
  | 0, _, s => some (s, false)
  | m + 1, i, s =>
    if rd left i = 0 ∨ (row.length : Int) ≤ freeAt row + rd left i + shift ∨ rd row (freeAt row + rd left i + shift) ≠ -1 ∨ (rd told (freeAt row) ≠ 0 ∧ rd told (freeAt row) ≠ rd left i) ∨ (rd told (freeAt row + rd left i + shift) ≠ 0 ∧ rd told (freeAt row + rd left i + shift) ≠ rd left i) then fillLoop rec row told left shift m (i + 1) s
    else (rec s ((row.set (freeAt row) (rd left i)).set (freeAt row + rd left i + shift).toNat (rd left i)) (left.set i 0)).bind fun p => if p.2 = true then some (p.1, true) else fillLoop rec row told left shift m (i + 1) p.1
def fillF {σ : Type} (each : σ → List Int → Option (σ × Bool)) (told : List Int) (shift : Int) : Nat → σ → List Int → List Int → Option (σ × Bool)
  | 0, _, _, _ => none
  | k + 1, s, row, left => if freeAt row = row.length then each s row else fillLoop (fillF each told shift k) row told left shift left.length 0 s
/-- What fill asks of the function that it calls: its state stands whatever happens at the blocks X; a call leaves X and all that is older than base as it is. -/
structure EachOk {σ : Type} (base : Nat) (X : Nat → Prop) (fid : FuncId) (caps : Array Value) (each : σ → List Int → Option (σ × Bool)) (I : σ → World → Prop) : Prop where
  fn : ∃ fn, Try.prog.funcs[fid]? = some fn ∧ (fn.name == "runtime.NumGoroutine") = false ∧ fn.body.isSome = true
  stable : ∀ s w w', I s w → w.heap.size ≤ w'.heap.size → (∀ k, k < w.heap.size → ¬ X k → w'.heap[k]? = w.heap[k]?) → I s w'
  call : ∀ s row A c w s' b, I s w → Kd.C (Kd.int .i64) w A row.length row → row.length ≤ c → row.length ≤ 1000 → each s row = some (s', b) → Calls Try.prog fid (#[.slice A row.length c] ++ caps) w fun e w' => e = .returned (.bool b) ∧ I s' w' ∧ Below base w w' ∧ (∀ k, X k → w'.heap[k]? = w.heap[k]?)
section
variable {P : Program} {ops : Array Oper} {Q : Exit → Act → World → Prop}
/-- A call of a function value that lies in a place. -/
theorem goesV_ {rest : List Oper} {oi : Oper} {a : Act} {w : World} (N : Option Tmp) (hd : oi.dst = N) (hg : oi.guard = none) {f : FuncId} {fn : Func} {p : Tmp} {xs : Array Operand} {ts : Array TypeId} {caps : Array Value} (hf : P.funcs[f]? = some fn) (hname : (fn.name == "runtime.NumGoroutine") = false) (hb : fn.body.isSome = true) (args : Array Value)
    (hop : oi.op = .call { callee := .value (.tmp p), args := xs, argTypes := ts }) (hv : a.eval (.tmp p) = .func (.func f) #[] caps) (hargs : xs.map a.eval = args)
    (h : Calls P f (args ++ caps) w fun e w' => ∃ v, e = .returned v ∧ wpList P ops Q rest (a.put N v) w') : wpList P ops Q (oi :: rest) a w := by
  refine wpList_plain hg fun K hK => ?_
  have he := enters_ hf hname hb (args ++ caps) w
  have hrun : (execOp a.eval oi).run P w = .ok (.enter f (args ++ caps)) w := by
    unfold execOp
    simp [hop, resolve, Deferred.ofValue, invoke, hv, hargs, he]
  unfold Oper.wp
  rw [hrun, Oper.upon_enter]
  refine h.mono fun e w'' hh => ?_
  obtain ⟨v, rfl, hk⟩ := hh
  subst hd
  exact hK _ _ hk
theorem gate_value {o : Oper} {rest : List Oper} {a : Act} {W : World} {p : Tmp} {xs : Array Operand} {ts : Array TypeId} (_ho : o.op = .call { callee := .value (.tmp p), args := xs, argTypes := ts }) (h : wpList P ops Q (o :: rest) a W) : wpList P ops Q (o :: rest) a W := h
end
/-- A block of whole numbers. -/
def IB (w : World) (g : Nat) (l : List Int) : Prop := w.heap[g]? = some (.cells (l.map (Value.int .i64)).toArray 3 (0, 0))
theorem IB.cell {w : World} {g : Nat} {l : List Int} (h : IB w g l) (j : Nat) (hj : j < l.length) : w.cell? ⟨g, j, none⟩ = some (.int .i64 (rd l j)) := by
  rw [blk_cell h j]
  simp [rd, hj]
theorem IB.cellI {w : World} {g : Nat} {l : List Int} (h : IB w g l) (j : Int) (h0 : 0 ≤ j) (hj : j < l.length) : w.cell? ⟨g, j.toNat, none⟩ = some (.int .i64 (rd l j)) := by
  have := h.cell j.toNat (by omega)
  rw [Int.toNat_of_nonneg h0] at this
  exact this
theorem IB.set {w W : World} {g : Nat} {l : List Int} (h : IB w g l) (j : Nat) (v : Int) (hw : W = w.setCell ⟨g, j, none⟩ (.int .i64 v)) : IB W g (l.set j v) := by
  subst hw
  refine blk_put h j _ ?_
  simp [List.map_set]
theorem IB.far {w W : World} {g g' : Nat} {l : List Int} (h : IB w g l) (hne : g ≠ g') (j : Nat) (v : Value) (hw : W = w.setCell ⟨g', j, none⟩ v) : IB W g l := by
  subst hw
  exact blk_far h (by simpa using hne) v
theorem add_block0 (g j : Nat) : (Addr.add ⟨g, 0, none⟩ j) = ⟨g, j, none⟩ := by
  unfold Addr.add
  split
  · rename_i h
    rw [h]
  · simp
theorem add_block (ad : Addr) (j : Nat) : (ad.add j).block = ad.block := by
  unfold Addr.add
  split <;> rfl
theorem IB.C {w : World} {g : Nat} {l : List Int} (h : IB w g l) (hl : l.length ≤ 1000) : Kd.C (Kd.int .i64) w (some ⟨g, 0, none⟩) l.length l := by
  refine Kd.C_of_reads (d := (0 : Int)) (h1 := fun _ => rfl) ⟨rfl, by omega, fun _ => ⟨_, rfl, fun j hj => ?_⟩⟩
  have := h.cell j hj
  simp only [rd, Int.toNat_natCast] at this
  rw [add_block0]
  exact this
/-- Cells that lie in a block that stays. -/
theorem told_same {w W : World} {ad : Addr} {l : List Int} (h : ∀ j, j < l.length → w.cell? (ad.add j) = some (.int .i64 (rd l j))) (hk : W.heap[ad.block]? = w.heap[ad.block]?) : ∀ j, j < l.length → W.cell? (ad.add j) = some (.int .i64 (rd l j)) := by
  intro j hj
  rw [← h j hj]
  simp only [World.cell?, add_block, hk]
/-- Whether a number is passed over. -/
def passed (row told : List Int) (a : Nat) (n t : Int) : Prop := n = 0 ∨ (row.length : Int) ≤ t ∨ rd row t ≠ -1 ∨ (rd told a ≠ 0 ∧ rd told a ≠ n) ∨ (rd told t ≠ 0 ∧ rd told t ≠ n)
theorem fillLoop_pass {σ : Type} {rec : σ → List Int → List Int → Option (σ × Bool)} {row told left : List Int} {shift : Int} {m i a : Nat} {s : σ} {n t : Int} (ha : freeAt row = a) (hn : rd left i = n) (ht : (a : Int) + n + shift = t) (h : passed row told a n t) : fillLoop rec row told left shift (m + 1) i s = fillLoop rec row told left shift m (i + 1) s := by
  subst ha
  subst hn
  subst ht
  exact if_pos h
theorem fillLoop_put {σ : Type} {rec : σ → List Int → List Int → Option (σ × Bool)} {row told left : List Int} {shift : Int} {m i a : Nat} {s : σ} {n t : Int} (ha : freeAt row = a) (hn : rd left i = n) (ht : (a : Int) + n + shift = t) (h : ¬ passed row told a n t) : fillLoop rec row told left shift (m + 1) i s = (rec s ((row.set a n).set t.toNat n) (left.set i 0)).bind fun p => if p.2 = true then some (p.1, true) else fillLoop rec row told left shift m (i + 1) p.1 := by
  subst ha
  subst hn
  subst ht
  exact if_neg h
theorem set_back {l : List Int} {a : Nat} {t : Int} {n v : Int} (ha : a < l.length) (ht0 : 0 ≤ t) (ht : t < l.length) (h1 : rd l a = v) (h2 : rd l t = v) : ((((l.set a n).set t.toNat n).set a v).set t.toNat v) = l := by
  apply List.ext_getElem?
  intro j
  simp only [rd] at h1 h2
  simp only [List.getElem?_set, List.length_set]
  have e1 : l[t.toNat]? = some v := by
    rw [← h2, List.getD_eq_getElem?_getD, List.getElem?_eq_getElem (by omega)]
    rfl
  have e2 : l[a]? = some v := by
    rw [← h1, List.getD_eq_getElem?_getD, Int.toNat_natCast, List.getElem?_eq_getElem (by omega)]
    rfl
  by_cases hj : t.toNat = j
  · subst hj
    rw [if_pos rfl, if_pos (by omega), e1]
  · rw [if_neg hj]
    by_cases hj2 : a = j
    · subst hj2
      rw [if_pos rfl, if_pos (by omega), e2]
    · rw [if_neg hj2, if_neg hj, if_neg hj2]
theorem set_back1 {l : List Int} {i : Nat} {n v : Int} (hi : i < l.length) (h : rd l i = n) : (l.set i v).set i n = l := by
  apply List.ext_getElem?
  intro j
  simp only [rd] at h
  simp only [List.getElem?_set, List.length_set]
  by_cases hj : i = j
  · subst hj
    rw [if_pos rfl, if_pos hi, ← h, List.getD_eq_getElem?_getD, Int.toNat_natCast, List.getElem?_eq_getElem hi]
    rfl
  · rw [if_neg hj, if_neg hj]
/-- Two rows that a call writes, and what stays. -/
structure At2 (base gr gl : Nat) (W w : World) (r l : List Int) : Prop where
  row : IB w gr r
  left : IB w gl l
  other : ∀ k, k ≠ gr → k ≠ gl → w.heap[k]? = W.heap[k]?
  size : w.heap.size = W.heap.size
  below : Below base W w
theorem size_setCell (w : World) (a : Addr) (v : Value) : (w.setCell a v).heap.size = w.heap.size := by
  simp [World.setCell]
theorem At2.putR {base gr gl : Nat} {W w w' : World} {r l : List Int} (h : At2 base gr gl W w r l) (hne : gr ≠ gl) (hb : base ≤ gr) (j : Nat) (v : Int) (hw : w' = w.setCell ⟨gr, j, none⟩ (.int .i64 v)) : At2 base gr gl W w' (r.set j v) l :=
  ⟨h.row.set j v hw, h.left.far (Ne.symm hne) j _ hw, fun k h1 h2 => by subst hw; exact (Below.heap_setCell w _ _ k h1).trans (h.other k h1 h2), by subst hw; rw [size_setCell]; exact h.size, by subst hw; exact h.below.setCell hb _⟩
theorem At2.putL {base gr gl : Nat} {W w w' : World} {r l : List Int} (h : At2 base gr gl W w r l) (hne : gr ≠ gl) (hb : base ≤ gl) (j : Nat) (v : Int) (hw : w' = w.setCell ⟨gl, j, none⟩ (.int .i64 v)) : At2 base gr gl W w' r (l.set j v) :=
  ⟨h.row.far hne j _ hw, h.left.set j v hw, fun k h1 h2 => by subst hw; exact (Below.heap_setCell w _ _ k h2).trans (h.other k h1 h2), by subst hw; rw [size_setCell]; exact h.size, by subst hw; exact h.below.setCell hb _⟩
theorem At2.refl {gr gl : Nat} {w : World} {r l : List Int} (base : Nat) (hr : IB w gr r) (hl : IB w gl l) : At2 base gr gl w w r l := ⟨hr, hl, fun _ _ _ => rfl, rfl, Below.refl _ _⟩
/-- Behind a number that was put and taken away again all is as before but the state. -/
theorem fill_end {σ : Type} {base : Nat} {X : Nat → Prop} {fid : FuncId} {caps : Array Value} {each : σ → List Int → Option (σ × Bool)} {I : σ → World → Prop} {gr gl : Nat} {w W0 w5 w8 w11 : World} {s2 : σ} {row left row1 left1 row2 left2 : List Int} (hI : I s2 w8) (hB : Below base w5 w8) (hX : ∀ k, X k → w8.heap[k]? = w5.heap[k]?) (E : EachOk base X fid caps each I)
    (a2 : At2 base gr gl W0 W0 row left) (a5 : At2 base gr gl W0 w5 row1 left1) (a11 : At2 base gr gl w8 w11 row2 left2) (hB2 : Below base w W0) (hX2 : ∀ k, X k → W0.heap[k]? = w.heap[k]?) (hXr : X gr) (hXl : X gl) (er : row2 = row) (el : left2 = left) : I s2 w11 ∧ Below base w w11 ∧ (∀ k, X k → w11.heap[k]? = w.heap[k]?) := by
  subst er
  subst el
  refine ⟨E.stable _ _ _ hI (by rw [a11.size]; exact Nat.le_refl _) (fun k _ hk => a11.other k (fun e => hk (e ▸ hXr)) (fun e => hk (e ▸ hXl))), hB2.trans (a5.below.trans (hB.trans a11.below)), fun k hk => ?_⟩
  by_cases e1 : k = gr
  · subst e1
    exact a11.row.trans (a2.row.symm.trans (hX2 _ hk))
  · by_cases e2 : k = gl
    · subst e2
      exact a11.left.trans (a2.left.symm.trans (hX2 _ hk))
    · exact (a11.other k e1 e2).trans ((hX k hk).trans ((a5.other k e1 e2).trans (hX2 k hk)))
set_option maxHeartbeats 16000000 in
set_option maxRecDepth 100000 in
theorem fill_calls {σ : Type} {base : Nat} {X : Nat → Prop} {fid : FuncId} {caps : Array Value} {each : σ → List Int → Option (σ × Bool)} {I : σ → World → Prop} (E : EachOk base X fid caps each I) (told : List Int) (ad : Addr) (ct : Nat) (shift : Int) (hs : 0 ≤ shift ∧ shift ≤ 1) (gr gl : Nat) (hXr : X gr) (hXl : X gl) (hne : gr ≠ gl) (hbr : base ≤ gr) (hbl : base ≤ gl) (htr : ad.block ≠ gr) (htl : ad.block ≠ gl) (htk : ad.block < base ∨ X ad.block) :
    ∀ (k : Nat) (s s' : σ) (b : Bool) (row left : List Int) (w : World), row.length = told.length → row.length ≤ 1000 → left.length ≤ 1000 → (∀ x ∈ left, 0 ≤ x ∧ x ≤ 1000) → I s w → IB w gr row → IB w gl left → (∀ j, j < told.length → w.cell? (ad.add j) = some (.int .i64 (rd told j))) → fillF each told shift k s row left = some (s', b) →
    Calls Try.prog 94 #[.slice (some ⟨gr, 0, none⟩) row.length row.length, .slice (some ad) told.length ct, .slice (some ⟨gl, 0, none⟩) left.length left.length, .int .i64 shift, .func (.func fid) #[] caps] w fun e w' => e = .returned (.bool b) ∧ I s' w' ∧ Below base w w' ∧ (∀ k, X k → w'.heap[k]? = w.heap[k]?) := by
  have HXr := Aside0.mk hXr
  have HXl := Aside0.mk hXl
  have HNE := Aside0.mk hne
  have HBR := Aside0.mk hbr
  have HBL := Aside0.mk hbl
  have HTR := Aside0.mk htr
  have HTL := Aside0.mk htl
  have HTK := Aside0.mk htk
  have HS := Aside0.mk hs
  clear hXr hXl hne hbr hbl htr htl htk hs
  obtain ⟨fn, hf1, hf2, hf3⟩ := E.fn
  have HF1 := Aside0.mk hf1
  have HF2 := Aside0.mk hf2
  have HF3 := Aside0.mk hf3
  clear hf1 hf2 hf3
  intro k
  induction k with
  | zero =>
    intro s s' b row left w _ _ _ _ _ _ _ _ h
    cases h
  | succ k ih =>
    intro s s' b row left w hlt hlr hll hlm hI hR hL hT h
    have IH := Aside0.mk ih
    have HLT := Aside0.mk hlt
    have HLR := Aside0.mk hlr
    have HLL := Aside0.mk hll
    have HLM := Aside0.mk hlm
    have HI := Aside0.mk hI
    have HR := Aside0.mk hR
    have HL := Aside0.mk hL
    have HT := Aside0.mk hT
    obtain ⟨ki, hki⟩ := index_free_some row (by omega)
    by_cases hfr : freeAt row = row.length
    · rw [if_pos hfr] at hki
      have HKI := Aside0.mk hki
      have H := Aside0.mk (show each s row = some (s', b) by rw [← h]; exact (if_pos hfr).symm)
      clear ih hlt hlr hll hlm hI hR hL hT h hki hfr
      go_enter Try.func94, Try.ntmps94
      go_wp2_with (first | ((with_reducible refine gate_callee (f := 89) rfl ?_); refine goesL_ (some 17) rfl rfl Try.func89 (by kernel_rfl) rfl #[.slice (some ⟨gr, 0, none⟩) row.length row.length, .int .i64 (-1)] rfl (by (try simp only [List.map_toArray, List.map_cons, List.map_nil]); first | done | rfl) ?_; (with_reducible refine (slices_Index_int_int.calls ki _ _ row (-1) (-1) _ ?side1 ?side2 HKI.out).mono ?_); (case side1 => exact HR.out.C HLR.out); (case side2 => exact Nat.le_refl _); rintro e w1 ⟨rfl, ⟨nd, rfl⟩⟩; refine ⟨_, rfl, ?_⟩) | ((with_reducible refine gate_value (p := 20) rfl ?_); refine goesV_ (some 22) rfl rfl HF1.out HF2.out HF3.out #[.slice (some ⟨gr, 0, none⟩) row.length row.length] rfl (by first | rfl | (simp [Act.eval]; done) | (simp [Act.eval]; rfl)) (by (try simp only [List.map_toArray, List.map_cons, List.map_nil]); first | done | rfl) ?_; (refine (E.call s row _ _ _ s' b ?side1 ?side2 ?side3 ?side4 H.out).mono ?_); (case side1 => exact E.stable _ _ _ HI.out (Nat.le_refl _) (fun _ _ _ => rfl)); (case side2 => exact HR.out.C HLR.out); (case side3 => exact Nat.le_refl _); (case side4 => exact HLR.out); rintro e w2 ⟨rfl, hI2, hB2, hX2⟩; refine ⟨_, rfl, ?_⟩; have HI2 := Aside0.mk hI2; have HB2 := Aside0.mk hB2; have HX2 := Aside0.mk hX2; clear hI2 hB2 hX2))
      go_ret
      exact ⟨rfl, HI2.out, (pw_below_drewN (Below.refl _ _) nd).trans HB2.out, HX2.out⟩
    · rw [if_neg hfr] at hki
      have hfa : freeAt row < row.length := by have := freeAt_le row; omega
      have H := Aside0.mk (show fillLoop (fillF each told shift k) row told left shift left.length 0 s = some (s', b) by rw [← h]; exact (if_neg hfr).symm)
      obtain ⟨a, ha⟩ : ∃ a, freeAt row = a := ⟨_, rfl⟩
      rw [ha] at hki hfa
      have HKI := Aside0.mk hki
      have HA := Aside0.mk ha
      have HFA := Aside0.mk hfa
      have HF := Aside0.mk (show rd row a = -1 by rw [← ha]; exact freeAt_rd row (by omega))
      have ha0 : decide ((a : Int) < 0) = false := decide_eq_false (by omega)
      clear ih hlt hlr hll hlm hI hR hL hT h hki hfr ha hfa
      go_enter Try.func94, Try.ntmps94
      go_wp2_with (first | ((with_reducible refine gate_callee (f := 89) rfl ?_); refine goesL_ (some 17) rfl rfl Try.func89 (by kernel_rfl) rfl #[.slice (some ⟨gr, 0, none⟩) row.length row.length, .int .i64 (-1)] rfl (by (try simp only [List.map_toArray, List.map_cons, List.map_nil]); first | done | rfl) ?_; (with_reducible refine (slices_Index_int_int.calls ki _ _ row (-1) (a : Int) _ ?side1 ?side2 HKI.out).mono ?_); (case side1 => exact HR.out.C HLR.out); (case side2 => exact Nat.le_refl _); rintro e w1 ⟨rfl, ⟨nd, rfl⟩⟩; refine ⟨_, rfl, ?_⟩))
      go_loopw [25] (fun v wr => ∃ (i : Nat) (s1 : σ), i ≤ left.length ∧ v = .int .i64 i ∧ Aside0 (I s1 wr) ∧ Aside0 (Below base w wr) ∧ Aside0 (∀ k, X k → wr.heap[k]? = w.heap[k]?) ∧ Aside0 (fillLoop (fillF each told shift k) row told left shift (left.length - i) i s1 = some (s', b))) (fun v _ => left.length - (intOf v).toNat)
      case atStart => exact ⟨0, s, Nat.zero_le _, rfl, ⟨E.stable _ _ _ HI.out (Nat.le_refl _) (fun _ _ _ => rfl)⟩, ⟨pw_below_drewN (Below.refl _ _) _⟩, ⟨fun _ _ => rfl⟩, ⟨by rw [Nat.sub_zero]; exact H.out⟩⟩
      case round =>
        obtain ⟨i, s1, hi, rfl, HI1, HB1, HX1, H1⟩ := hrel
        by_cases hlt : i < left.length
        · have hR1 : IB wr gr row := (HX1.out gr HXr.out).trans HR.out
          have hL1 : IB wr gl left := (HX1.out gl HXl.out).trans HL.out
          have hT1 := told_same (W := wr) HT.out (HTK.out.elim (fun h => HB1.out.block _ h) (fun h => HX1.out _ h))
          obtain ⟨m, hm⟩ : ∃ m, left.length - i = m + 1 := ⟨left.length - i - 1, by omega⟩
          have hm2 : left.length - (i + 1) = m := by omega
          have h1 := H1.out
          rw [hm] at h1
          obtain ⟨n, hn⟩ : ∃ n, rd left i = n := ⟨_, rfl⟩
          have hn01 : 0 ≤ n ∧ n ≤ 1000 := by
            rw [← hn, rd_nat left i hlt]
            exact HLM.out _ (List.getElem_mem hlt)
          have hci : wr.cell? ⟨gl, i, none⟩ = some (.int .i64 n) := by rw [← hn]; exact hL1.cell i hlt
          obtain ⟨t, ht⟩ : ∃ t : Int, (a : Int) + n + shift = t := ⟨_, rfl⟩
          have hfa := HFA.out
          have hs := HS.out
          have hlr := HLR.out
          have hw1 : wrap64 (wrap64 ((a : Int) + n) + shift) = t := by rw [wrap_in (n := (a : Int) + n) (by omega) (by omega), wrap_in (by omega) (by omega), ht]
          have hw2 : IntKind.i64.wrap (IntKind.i64.wrap ((a : Int) + n) + shift) = t := by rw [i64_w, i64_w]; exact hw1
          have HT0 := Aside0.mk (show 0 ≤ t by omega)
          have HN := Aside0.mk hn
          have HN01 := Aside0.mk hn01
          have HTT := Aside0.mk ht
          have HM := Aside0.mk hm
          have HM2 := Aside0.mk hm2
          have HH := Aside0.mk h1
          have HR1 := Aside0.mk hR1
          have HL1 := Aside0.mk hL1
          have HT1 := Aside0.mk hT1
          have HLT1 := Aside0.mk hlt
          have hlt0 : decide ((i : Int) < (left.length : Int)) = true := decide_eq_true (by omega)
          have p0 : (0 ≤ (i : Int)) = True := eq_true (by omega)
          have q0 : ((i : Int) < (left.length : Int)) = True := eq_true (by omega)
          have HI0 := Aside0.mk hi
          have HWI := Aside0.mk (show wrap64 ((i : Int) + 1) = ((i + 1 : Nat) : Int) by have := HLL.out; rw [wrap_in (by omega) (by omega)]; rfl)
          clear H1 hn hn01 ht hm hm2 h1 hR1 hL1 hT1 hfa hs hlr
          go_upto_region 8 with (fail)
          rw [hw1]
          clear hw1 hw2
          go_cut [79] (fun v79 wc => ∃ x : Bool, v79 = .bool x ∧ Aside0 (Drawn0 wr wc) ∧ Aside0 (x = true ↔ passed row told a n t))
          case first =>
            by_cases c1 : n = 0
            · have b1 : (n == 0) = true := beq_iff_eq.mpr c1
              have HP := Aside0.mk (show passed row told a n t from .inl c1)
              clear c1
              go_wp2
              go_meet
              case rel => exact ⟨true, rfl, ⟨by first | exact Drawn0.refl _ | exact ⟨_, rfl⟩⟩, ⟨⟨fun _ => HP.out, fun _ => rfl⟩⟩⟩
            have b1 : (n == 0) = false := beq_eq_false_iff_ne.mpr c1
            have C1 := Aside0.mk c1
            clear c1
            by_cases c2 : (row.length : Int) ≤ t
            · have b2 : decide ((row.length : Int) ≤ t) = true := decide_eq_true c2
              have HP := Aside0.mk (show passed row told a n t from .inr (.inl c2))
              clear c2
              go_wp2
              go_meet
              case rel => exact ⟨true, rfl, ⟨by first | exact Drawn0.refl _ | exact ⟨_, rfl⟩⟩, ⟨⟨fun _ => HP.out, fun _ => rfl⟩⟩⟩
            have b2 : decide ((row.length : Int) ≤ t) = false := decide_eq_false c2
            have C2 := Aside0.mk c2
            clear c2
            have hcr := HR1.out.cellI t HT0.out (by have := C2.out; omega)
            have p1 : (0 ≤ t) = True := eq_true HT0.out
            have q1 : (t < (row.length : Int)) = True := eq_true (by have := C2.out; omega)
            obtain ⟨u, hu⟩ : ∃ u, rd row t = u := ⟨_, rfl⟩
            rw [hu] at hcr
            have HU := Aside0.mk hu
            clear hu
            by_cases c3 : u = -1
            rotate_left
            · have b3 : (u != -1) = true := bne_iff_ne.mpr c3
              have HP := Aside0.mk (show passed row told a n t from .inr (.inr (.inl (by rw [HU.out]; exact c3))))
              clear c3
              go_wp2
              go_meet
              case rel => exact ⟨true, rfl, ⟨by first | exact Drawn0.refl _ | exact ⟨_, rfl⟩⟩, ⟨⟨fun _ => HP.out, fun _ => rfl⟩⟩⟩
            have b3 : (u != -1) = false := bne_eq_false_iff_eq.mpr c3
            have C3 := Aside0.mk c3
            clear c3
            have hca := HT1.out a (by have := HFA.out; have := HLT.out; omega)
            have hct := HT1.out t.toNat (by have := C2.out; have := HLT.out; have := HT0.out; omega)
            rw [Int.toNat_of_nonneg HT0.out] at hct
            have p2 : (0 ≤ (a : Int)) = True := eq_true (by omega)
            have q2 : ((a : Int) < (told.length : Int)) = True := eq_true (by have := HFA.out; have := HLT.out; omega)
            have q3 : (t < (told.length : Int)) = True := eq_true (by have := C2.out; have := HLT.out; omega)
            obtain ⟨ya, hya⟩ : ∃ u, rd told a = u := ⟨_, rfl⟩
            obtain ⟨yt, hyt⟩ : ∃ u, rd told t = u := ⟨_, rfl⟩
            rw [hya] at hca
            rw [hyt] at hct
            have HYA := Aside0.mk hya
            have HYT := Aside0.mk hyt
            clear hya hyt
            by_cases c4 : ya ≠ 0 ∧ ya ≠ n
            · have b4 : (ya != 0) = true := bne_iff_ne.mpr c4.1
              have b5 : (ya != n) = true := bne_iff_ne.mpr c4.2
              have HP := Aside0.mk (show passed row told a n t from .inr (.inr (.inr (.inl (by rw [HYA.out]; exact c4)))))
              clear c4
              go_wp2
              go_meet
              case rel => exact ⟨true, rfl, ⟨by first | exact Drawn0.refl _ | exact ⟨_, rfl⟩⟩, ⟨⟨fun _ => HP.out, fun _ => rfl⟩⟩⟩
            have C4 := Aside0.mk c4
            by_cases c5 : yt ≠ 0 ∧ yt ≠ n
            · have b6 : (yt != 0) = true := bne_iff_ne.mpr c5.1
              have b7 : (yt != n) = true := bne_iff_ne.mpr c5.2
              have HP := Aside0.mk (show passed row told a n t from .inr (.inr (.inr (.inr (by rw [HYT.out]; exact c5)))))
              clear c5
              by_cases c6 : ya = 0
              · have b4 : (ya != 0) = false := bne_eq_false_iff_eq.mpr c6
                clear c6 c4
                go_wp2
                go_meet
                case rel => exact ⟨true, rfl, ⟨by first | exact Drawn0.refl _ | exact ⟨_, rfl⟩⟩, ⟨⟨fun _ => HP.out, fun _ => rfl⟩⟩⟩
              · have b4 : (ya != 0) = true := bne_iff_ne.mpr c6
                have b5 : (ya != n) = false := bne_eq_false_iff_eq.mpr (Classical.byContradiction fun h => c4 ⟨c6, h⟩)
                clear c6 c4
                go_wp2
                go_meet
                case rel => exact ⟨true, rfl, ⟨by first | exact Drawn0.refl _ | exact ⟨_, rfl⟩⟩, ⟨⟨fun _ => HP.out, fun _ => rfl⟩⟩⟩
            have C5 := Aside0.mk c5
            have HP := Aside0.mk (show ¬ passed row told a n t from fun h => by
              rcases h with h | h | h | h | h
              · exact C1.out h
              · exact C2.out h
              · rw [HU.out] at h; exact h C3.out
              · rw [HYA.out] at h; exact C4.out h
              · rw [HYT.out] at h; exact C5.out h)
            by_cases c6 : ya = 0
            · have b4 : (ya != 0) = false := bne_eq_false_iff_eq.mpr c6
              by_cases c7 : yt = 0
              · have b6 : (yt != 0) = false := bne_eq_false_iff_eq.mpr c7
                clear c6 c7 c4 c5
                go_wp2
                go_meet
                case rel => exact ⟨false, rfl, ⟨by first | exact Drawn0.refl _ | exact ⟨_, rfl⟩⟩, ⟨⟨fun h => by simp at h, fun h => absurd h HP.out⟩⟩⟩
              · have b6 : (yt != 0) = true := bne_iff_ne.mpr c7
                have b7 : (yt != n) = false := bne_eq_false_iff_eq.mpr (Classical.byContradiction fun h => c5 ⟨c7, h⟩)
                clear c6 c7 c4 c5
                go_wp2
                go_meet
                case rel => exact ⟨false, rfl, ⟨by first | exact Drawn0.refl _ | exact ⟨_, rfl⟩⟩, ⟨⟨fun h => by simp at h, fun h => absurd h HP.out⟩⟩⟩
            · have b4 : (ya != 0) = true := bne_iff_ne.mpr c6
              have b5 : (ya != n) = false := bne_eq_false_iff_eq.mpr (Classical.byContradiction fun h => c4 ⟨c6, h⟩)
              by_cases c7 : yt = 0
              · have b6 : (yt != 0) = false := bne_eq_false_iff_eq.mpr c7
                clear c6 c7 c4 c5
                go_wp2
                go_meet
                case rel => exact ⟨false, rfl, ⟨by first | exact Drawn0.refl _ | exact ⟨_, rfl⟩⟩, ⟨⟨fun h => by simp at h, fun h => absurd h HP.out⟩⟩⟩
              · have b6 : (yt != 0) = true := bne_iff_ne.mpr c7
                have b7 : (yt != n) = false := bne_eq_false_iff_eq.mpr (Classical.byContradiction fun h => c5 ⟨c7, h⟩)
                clear c6 c7 c4 c5
                go_wp2
                go_meet
                case rel => exact ⟨false, rfl, ⟨by first | exact Drawn0.refl _ | exact ⟨_, rfl⟩⟩, ⟨⟨fun h => by simp at h, fun h => absurd h HP.out⟩⟩⟩
          case rest =>
            obtain ⟨x, rfl, HDC, HPX⟩ := hcut
            obtain ⟨⟨ndc, rfl⟩⟩ := HDC
            cases x with
            | true =>
              have h2 := (fillLoop_pass (rec := fillF each told shift k) (m := m) (s := s1) HA.out HN.out HTT.out (HPX.out.1 rfl)).symm.trans HH.out
              have HH2 := Aside0.mk (show fillLoop (fillF each told shift k) row told left shift (left.length - (i + 1)) (i + 1) s1 = some (s', b) by rw [HM2.out]; exact h2)
              clear h2
              go_wp2
              go_roundw
              case rel => exact ⟨i + 1, s1, HLT1.out, congrArg (Value.int .i64) HWI.out, ⟨E.stable _ _ _ HI1.out (Nat.le_refl _) (fun _ _ _ => rfl)⟩, ⟨HB1.out.trans (pw_below_drewN (Below.refl _ _) _)⟩, ⟨fun k hk => HX1.out k hk⟩, HH2⟩
              case measure => have := HLT1.out; rw [HWI.out]; simp [intOf]; omega
            | false =>
              have hnp : ¬ passed row told a n t := fun h => by simpa using HPX.out.2 h
              have h2 := (fillLoop_put (rec := fillF each told shift k) (m := m) (s := s1) HA.out HN.out HTT.out hnp).symm.trans HH.out
              have htl : t < (row.length : Int) := by
                rcases Int.lt_or_le t row.length with h | h
                · exact h
                · exact absurd (Or.inr (Or.inl h)) hnp
              have hrt : rd row t = -1 := Classical.byContradiction fun h => hnp (.inr (.inr (.inl h)))
              have HRT := Aside0.mk hrt
              have HTL1 := Aside0.mk htl
              clear hnp hrt
              obtain ⟨⟨s2, d⟩, hrec, h3⟩ := Option.bind_eq_some_iff.1 h2
              have HREC := Aside0.mk hrec
              have H3 := Aside0.mk h3
              clear h2 h3 hrec
              have p1 : (0 ≤ t) = True := eq_true HT0.out
              have q1 : (t < (row.length : Int)) = True := eq_true htl
              have p2 : (0 ≤ (a : Int)) = True := eq_true (by omega)
              have q2 : ((a : Int) < (row.length : Int)) = True := eq_true (by have := HFA.out; omega)
              clear htl
              have A2 := Aside0.mk (At2.refl (w := wr.drewN ndc) base HR1.out HL1.out)
              have HI2 := Aside0.mk (show I s1 (wr.drewN ndc) from E.stable _ _ _ HI1.out (Nat.le_refl _) (fun _ _ _ => rfl))
              have HB2 := Aside0.mk (show Below base w (wr.drewN ndc) from HB1.out.trans (pw_below_drewN (Below.refl _ _) _))
              have HX2 := Aside0.mk (show ∀ k, X k → (wr.drewN ndc).heap[k]? = w.heap[k]? from HX1.out)
              have HT2 := Aside0.mk (show ∀ j, j < told.length → (wr.drewN ndc).cell? (ad.add j) = some (.int .i64 (rd told j)) from HT1.out)
              generalize wr.drewN ndc = W0 at A2 HI2 HB2 HX2 HT2 ⊢
              have hc1 := A2.out.row.cell a HFA.out
              have hf1 := blk_frozen A2.out.row a
              have HCALL := Aside0.mk (show ∀ w7, At2 base gr gl W0 w7 ((row.set a n).set t.toNat n) (left.set i 0) → Calls Try.prog 94 #[.slice (some ⟨gr, 0, none⟩) row.length row.length, .slice (some ad) told.length ct, .slice (some ⟨gl, 0, none⟩) left.length left.length, .int .i64 shift, .func (.func fid) #[] caps] w7 fun e w' => e = .returned (.bool d) ∧ I s2 w' ∧ Below base w7 w' ∧ (∀ k, X k → w'.heap[k]? = w7.heap[k]?) from fun w7 h7 => by
                have h8 := IH.out s1 s2 d ((row.set a n).set t.toNat n) (left.set i 0) w7 (by simpa using HLT.out) (by simpa using HLR.out) (by simpa using HLL.out) (fun x hx => (List.mem_or_eq_of_mem_set hx).elim (HLM.out x) (fun e => by omega)) (E.stable _ _ _ HI2.out (by rw [h7.size]; exact Nat.le_refl _) (fun k _ hk => h7.other k (fun e => hk (e ▸ HXr.out)) (fun e => hk (e ▸ HXl.out)))) h7.row h7.left (told_same HT2.out (h7.other _ HTR.out HTL.out)) HREC.out
                rw [List.length_set, List.length_set, List.length_set] at h8
                exact h8)
              cases d with
              | true =>
                have h4 : s2 = s' ∧ true = b := by simpa using H3.out
                obtain ⟨rfl, rfl⟩ := h4
                clear H3
                go_wp2_with (first | ((with_reducible refine gate_store (t := 3) (p := 86) rfl ?_); refine store_event (t := 3) (p := 86) (v := ?voa) (w1 := (W0.setCell ⟨gr, a, none⟩ (.int .i64 n))) ?hg ?ho ?hn ?hr ?_; (case ho => rfl); (case hg => rfl); (case hn => rfl); (case hr => first | (go_simp; done) | (go_simp; rfl)); intro w3 hw3; have A3 := Aside0.mk (A2.out.putR HNE.out HBR.out a n hw3); clear hw3; have hc2 := A3.out.row.cellI t HT0.out (by have := HTL1.out; rw [List.length_set]; exact this); have hf2 := blk_frozen A3.out.row t.toNat) | ((with_reducible refine gate_store (t := 3) (p := 87) rfl ?_); refine store_event (t := 3) (p := 87) (v := ?vob) (w1 := (w3.setCell ⟨gr, t.toNat, none⟩ (.int .i64 n))) ?hg ?ho ?hn ?hr ?_; (case ho => rfl); (case hg => rfl); (case hn => rfl); (case hr => first | (go_simp; done) | (go_simp; rfl)); intro w4 hw4; have A4 := Aside0.mk (A3.out.putR HNE.out HBR.out t.toNat n hw4); clear hw4; have hc3 := A4.out.left.cell i HLT1.out; have hf3 := blk_frozen A4.out.left i) | ((with_reducible refine gate_store (t := 3) (p := 90) rfl ?_); refine store_event (t := 3) (p := 90) (v := ?voc) (w1 := (w4.setCell ⟨gl, i, none⟩ (.int .i64 0))) ?hg ?ho ?hn ?hr ?_; (case ho => rfl); (case hg => rfl); (case hn => rfl); (case hr => first | (go_simp; done) | (go_simp; rfl)); intro w5 hw5; have A5 := Aside0.mk (A4.out.putL HNE.out HBL.out i 0 hw5); clear hw5) | ((with_reducible refine gate_callee (f := 94) rfl ?_); refine goesL_ (some 96) rfl rfl Try.func94 (by kernel_rfl) rfl #[.slice (some ⟨gr, 0, none⟩) row.length row.length, .slice (some ad) told.length ct, .slice (some ⟨gl, 0, none⟩) left.length left.length, .int .i64 shift, .func (.func fid) #[] caps] rfl (by (try simp only [List.map_toArray, List.map_cons, List.map_nil]); first | done | rfl) ?_; refine (HCALL.out w5 A5.out).mono ?_; rintro e w8 ⟨rfl, hI8, hB8, hX8⟩; refine ⟨_, rfl, ?_⟩; have HI8 := Aside0.mk hI8; have HB8 := Aside0.mk hB8; have HX8 := Aside0.mk hX8; clear hI8 hB8 hX8; have A8 := Aside0.mk (At2.refl base (show IB w8 gr _ from (HX8.out gr HXr.out).trans A5.out.row) (show IB w8 gl _ from (HX8.out gl HXl.out).trans A5.out.left)); have hc4 := A8.out.left.cell i (by rw [List.length_set]; exact HLT1.out); have hf4 := blk_frozen A8.out.left i) | ((with_reducible refine gate_store (t := 3) (p := 100) rfl ?_); refine store_event (t := 3) (p := 100) (v := ?vod) (w1 := (w8.setCell ⟨gl, i, none⟩ (.int .i64 n))) ?hg ?ho ?hn ?hr ?_; (case ho => rfl); (case hg => rfl); (case hn => rfl); (case hr => first | (go_simp; done) | (go_simp; rfl)); intro w9 hw9; have A9 := Aside0.mk (A8.out.putL HNE.out HBL.out i n hw9); clear hw9; have hc5 := A9.out.row.cell a (by rw [List.length_set, List.length_set]; exact HFA.out); have hf5 := blk_frozen A9.out.row a) | ((with_reducible refine gate_store (t := 3) (p := 105) rfl ?_); refine store_event (t := 3) (p := 105) (v := ?voe) (w1 := (w9.setCell ⟨gr, a, none⟩ (.int .i64 (-1)))) ?hg ?ho ?hn ?hr ?_; (case ho => rfl); (case hg => rfl); (case hn => rfl); (case hr => first | (go_simp; done) | (go_simp; rfl)); intro w10 hw10; have A10 := Aside0.mk (A9.out.putR HNE.out HBR.out a (-1) hw10); clear hw10; have hc6 := A10.out.row.cellI t HT0.out (by have := HTL1.out; rw [List.length_set, List.length_set, List.length_set]; exact this); have hf6 := blk_frozen A10.out.row t.toNat) | ((with_reducible refine gate_store (t := 3) (p := 106) rfl ?_); refine store_event (t := 3) (p := 106) (v := ?vof) (w1 := (w10.setCell ⟨gr, t.toNat, none⟩ (.int .i64 (-1)))) ?hg ?ho ?hn ?hr ?_; (case ho => rfl); (case hg => rfl); (case hn => rfl); (case hr => first | (go_simp; done) | (go_simp; rfl)); intro w11 hw11; have A11 := Aside0.mk (A10.out.putR HNE.out HBR.out t.toNat (-1) hw11); clear hw11))
                go_ret
                exact ⟨rfl, fill_end HI8.out HB8.out HX8.out E A2.out A5.out A11.out HB2.out HX2.out HXr.out HXl.out (set_back HFA.out HT0.out HTL1.out HF.out HRT.out) (set_back1 HLT1.out HN.out)⟩
              | false =>
                have HH2 := Aside0.mk (show fillLoop (fillF each told shift k) row told left shift (left.length - (i + 1)) (i + 1) s2 = some (s', b) by rw [HM2.out]; simpa using H3.out)
                clear H3
                go_wp2_with (first | ((with_reducible refine gate_store (t := 3) (p := 86) rfl ?_); refine store_event (t := 3) (p := 86) (v := ?voa) (w1 := (W0.setCell ⟨gr, a, none⟩ (.int .i64 n))) ?hg ?ho ?hn ?hr ?_; (case ho => rfl); (case hg => rfl); (case hn => rfl); (case hr => first | (go_simp; done) | (go_simp; rfl)); intro w3 hw3; have A3 := Aside0.mk (A2.out.putR HNE.out HBR.out a n hw3); clear hw3; have hc2 := A3.out.row.cellI t HT0.out (by have := HTL1.out; rw [List.length_set]; exact this); have hf2 := blk_frozen A3.out.row t.toNat) | ((with_reducible refine gate_store (t := 3) (p := 87) rfl ?_); refine store_event (t := 3) (p := 87) (v := ?vob) (w1 := (w3.setCell ⟨gr, t.toNat, none⟩ (.int .i64 n))) ?hg ?ho ?hn ?hr ?_; (case ho => rfl); (case hg => rfl); (case hn => rfl); (case hr => first | (go_simp; done) | (go_simp; rfl)); intro w4 hw4; have A4 := Aside0.mk (A3.out.putR HNE.out HBR.out t.toNat n hw4); clear hw4; have hc3 := A4.out.left.cell i HLT1.out; have hf3 := blk_frozen A4.out.left i) | ((with_reducible refine gate_store (t := 3) (p := 90) rfl ?_); refine store_event (t := 3) (p := 90) (v := ?voc) (w1 := (w4.setCell ⟨gl, i, none⟩ (.int .i64 0))) ?hg ?ho ?hn ?hr ?_; (case ho => rfl); (case hg => rfl); (case hn => rfl); (case hr => first | (go_simp; done) | (go_simp; rfl)); intro w5 hw5; have A5 := Aside0.mk (A4.out.putL HNE.out HBL.out i 0 hw5); clear hw5) | ((with_reducible refine gate_callee (f := 94) rfl ?_); refine goesL_ (some 96) rfl rfl Try.func94 (by kernel_rfl) rfl #[.slice (some ⟨gr, 0, none⟩) row.length row.length, .slice (some ad) told.length ct, .slice (some ⟨gl, 0, none⟩) left.length left.length, .int .i64 shift, .func (.func fid) #[] caps] rfl (by (try simp only [List.map_toArray, List.map_cons, List.map_nil]); first | done | rfl) ?_; refine (HCALL.out w5 A5.out).mono ?_; rintro e w8 ⟨rfl, hI8, hB8, hX8⟩; refine ⟨_, rfl, ?_⟩; have HI8 := Aside0.mk hI8; have HB8 := Aside0.mk hB8; have HX8 := Aside0.mk hX8; clear hI8 hB8 hX8; have A8 := Aside0.mk (At2.refl base (show IB w8 gr _ from (HX8.out gr HXr.out).trans A5.out.row) (show IB w8 gl _ from (HX8.out gl HXl.out).trans A5.out.left)); have hc4 := A8.out.left.cell i (by rw [List.length_set]; exact HLT1.out); have hf4 := blk_frozen A8.out.left i) | ((with_reducible refine gate_store (t := 3) (p := 100) rfl ?_); refine store_event (t := 3) (p := 100) (v := ?vod) (w1 := (w8.setCell ⟨gl, i, none⟩ (.int .i64 n))) ?hg ?ho ?hn ?hr ?_; (case ho => rfl); (case hg => rfl); (case hn => rfl); (case hr => first | (go_simp; done) | (go_simp; rfl)); intro w9 hw9; have A9 := Aside0.mk (A8.out.putL HNE.out HBL.out i n hw9); clear hw9; have hc5 := A9.out.row.cell a (by rw [List.length_set, List.length_set]; exact HFA.out); have hf5 := blk_frozen A9.out.row a) | ((with_reducible refine gate_store (t := 3) (p := 105) rfl ?_); refine store_event (t := 3) (p := 105) (v := ?voe) (w1 := (w9.setCell ⟨gr, a, none⟩ (.int .i64 (-1)))) ?hg ?ho ?hn ?hr ?_; (case ho => rfl); (case hg => rfl); (case hn => rfl); (case hr => first | (go_simp; done) | (go_simp; rfl)); intro w10 hw10; have A10 := Aside0.mk (A9.out.putR HNE.out HBR.out a (-1) hw10); clear hw10; have hc6 := A10.out.row.cellI t HT0.out (by have := HTL1.out; rw [List.length_set, List.length_set, List.length_set]; exact this); have hf6 := blk_frozen A10.out.row t.toNat) | ((with_reducible refine gate_store (t := 3) (p := 106) rfl ?_); refine store_event (t := 3) (p := 106) (v := ?vof) (w1 := (w10.setCell ⟨gr, t.toNat, none⟩ (.int .i64 (-1)))) ?hg ?ho ?hn ?hr ?_; (case ho => rfl); (case hg => rfl); (case hn => rfl); (case hr => first | (go_simp; done) | (go_simp; rfl)); intro w11 hw11; have A11 := Aside0.mk (A10.out.putR HNE.out HBR.out t.toNat (-1) hw11); clear hw11))
                go_roundw
                case rel =>
                  have R := fill_end HI8.out HB8.out HX8.out E A2.out A5.out A11.out HB2.out HX2.out HXr.out HXl.out (set_back HFA.out HT0.out HTL1.out HF.out HRT.out) (set_back1 HLT1.out HN.out)
                  exact ⟨i + 1, s2, HLT1.out, congrArg (Value.int .i64) HWI.out, ⟨R.1⟩, ⟨R.2.1⟩, ⟨R.2.2⟩, HH2⟩
                case measure => have := HLT1.out; rw [HWI.out]; simp [intOf]; omega
        · obtain rfl : i = left.length := by omega
          have h2 : s1 = s' ∧ false = b := by simpa [fillLoop] using H1.out
          obtain ⟨rfl, rfl⟩ := h2
          clear H1
          go_wp2
          go_ret
          exact ⟨rfl, HI1.out, HB1.out, HX1.out⟩


end Go.Proofs.Ytmhcgihkijiecaa.Fn
namespace Go.Proofs.Ytmhcgihkijiecaa.Fn
open Go.RowKit Go.Proofs.YtmhcgihkijiecaaW.PrintWords Go.Proofs.YtmhcgihkijiecaaW.PrintLast Go.Proofs.YtmhcgihkijiecaaW.PrintMore
attribute [local go_sem] max2_int min2_int max_two min_two max_three min_three max_four min_four   -- for this text's walks alone
set_option linter.unusedVariables false
set_option linter.unusedSimpArgs false

/-! ### impl_kind_count: function 56 (given) -/
/-! ### kinds: what each of them asks of the function that it is given, and kind.count -/
/-- A kind, a function of a function: it calls it for some rows, one after the other, as `run` says. -/
def KindOk (kf : FuncId) (kcaps : Array Value) (Pre : World → Prop) (run : {σ : Type} → (σ → List Int → Option (σ × Bool)) → σ → Option (σ × Bool)) : Prop :=
  ∀ {σ : Type} {base : Nat} {fid : FuncId} {ecaps : Array Value} {each : σ → List Int → Option (σ × Bool)} {I : (Nat → Prop) → σ → World → Prop} (s s' : σ) (b : Bool) (w : World), Pre w → base ≤ w.heap.size → (∀ X : Nat → Prop, (∀ k, X k → w.heap.size ≤ k) → EachOk base X fid ecaps each (I X)) → (∀ (X : Nat → Prop) w', Below w.heap.size w w' → (∀ k, X k → w.heap.size ≤ k ∧ k < w'.heap.size) → I X s w') → run each s = some (s', b) →
    Calls Try.prog kf (#[.func (.func fid) #[] ecaps] ++ kcaps) w fun e w' => e = .returned (.tuple #[]) ∧ (∃ X : Nat → Prop, (∀ k, X k → w.heap.size ≤ k) ∧ I X s' w') ∧ Below base w w'
structure KindFn (kf : FuncId) : Prop where
  fn : ∃ fn, Try.prog.funcs[kf]? = some fn ∧ (fn.name == "runtime.NumGoroutine") = false ∧ fn.body.isSome = true
structure CountI (base bo : Nat) (X : Nat → Prop) (m : Nat) (w : World) : Prop where
  out : w.heap[bo]? = some (.cells #[.int .i64 (m : Int)] 3 (0, 0))
  bo : base ≤ bo
  lt : ∀ k, X k → k < w.heap.size
def eachCount (m : Nat) (_row : List Int) : Option (Nat × Bool) := if m < 1000000000000 then some (m + 1, false) else none
set_option maxHeartbeats 8000000 in
set_option maxRecDepth 100000 in
theorem count1_call {base bo : Nat} {X : Nat → Prop} (hXo : ¬ X bo) (m : Nat) (A : Option Addr) (n c : Nat) (w : World) (hI : CountI base bo X m w) (hm : m < 1000000000000) :
    Calls Try.prog 81 #[.slice A n c, .pointer (some ⟨bo, 0, none⟩)] w fun e w' => e = .returned (.bool false) ∧ CountI base bo X (m + 1) w' ∧ Below base w w' ∧ (∀ k, X k → w'.heap[k]? = w.heap[k]?) := by
  obtain ⟨h1, h4, h6⟩ := hI
  have HO := Aside0.mk h1
  have H4 := Aside0.mk h4
  have H6 := Aside0.mk h6
  have HXO := Aside0.mk hXo
  have hc := cell_of_one h1
  have hf := free_of_one h1
  have hw := wrap_in (n := (m : Int) + 1) (by omega) (by omega)
  clear h1 h4 h6 hXo
  go_enter Try.func81, Try.ntmps81
  go_wp2
  go_ret
  refine ⟨rfl, ⟨?_, H4.out, fun k hk => ?_⟩, Below.setCell (Below.refl _ _) (show base ≤ (⟨bo, 0, none⟩ : Addr).block from H4.out) _, fun k hk => Below.heap_setCell w _ _ k (fun e => HXO.out (by rw [show k = bo from e] at hk; exact hk))⟩
  · exact one_setCell HO.out
  · rw [size_setCell]; exact H6.out k hk
theorem count1_ok {base bo N : Nat} {X : Nat → Prop} (hX : ∀ k, X k → N ≤ k) (hbo : bo < N) : EachOk base X 81 #[.pointer (some ⟨bo, 0, none⟩)] eachCount (CountI base bo X) := by
  have hXo : ¬ X bo := fun h => by have := hX bo h; omega
  refine ⟨⟨_, Try.func81, by kernel_rfl, rfl⟩, fun s w w' h hs hk => ⟨(hk bo (blk_lt h.out) hXo).trans h.out, h.bo, fun k hx => Nat.lt_of_lt_of_le (h.lt k hx) hs⟩, fun s row A c w s' b hI hr hc hl h => ?_⟩
  unfold eachCount at h
  split at h
  · rename_i hx
    obtain ⟨rfl, rfl⟩ := Prod.mk.inj (Option.some.inj h)
    exact count1_call hXo s A row.length c w hI hx
  · cases h
section
variable {P : Program} {ops : Array Oper} {Q : Exit → Act → World → Prop}
/-- A call of a function value that has no arguments of its own ahead. -/
theorem goesX_ {rest : List Oper} {oi : Oper} {a : Act} {w : World} (N : Option Tmp) (hd : oi.dst = N) (hg : oi.guard = none) {f : FuncId} {p : Tmp} {xs : Array Operand} {ts : Array TypeId} {caps : Array Value} (hf : ∃ fn, P.funcs[f]? = some fn ∧ (fn.name == "runtime.NumGoroutine") = false ∧ fn.body.isSome = true) (args : Array Value)
    (hop : oi.op = .call { callee := .value (.tmp p), args := xs, argTypes := ts }) (hv : a.eval (.tmp p) = .func (.func f) #[] caps) (hargs : xs.map a.eval = args)
    (h : Calls P f (args ++ caps) w fun e w' => ∃ v, e = .returned v ∧ wpList P ops Q rest (a.put N v) w') : wpList P ops Q (oi :: rest) a w := by
  obtain ⟨fn, h1, h2, h3⟩ := hf
  exact goesV_ N hd hg h1 h2 h3 args hop hv hargs h
end
set_option maxHeartbeats 8000000 in
set_option maxRecDepth 100000 in
theorem kind_count_call {kf : FuncId} {kcaps : Array Value} {Pre : World → Prop} {run : {σ : Type} → (σ → List Int → Option (σ × Bool)) → σ → Option (σ × Bool)} (w : World) (hf : KindFn kf) (hP : ∀ w', Below w.heap.size w w' → Pre w') (h : KindOk kf kcaps Pre run) (m : Nat) (b : Bool) (hr : run eachCount 0 = some (m, b)) :
    Calls Try.prog 56 #[.func (.func kf) #[] kcaps] w fun e w' => e = .returned (.int .i64 (m : Int)) ∧ Below w.heap.size w w' := by
  have HF := Aside0.mk hf
  have HP := Aside0.mk hP
  have H := Aside0.mk @h
  have HR := Aside0.mk hr
  clear hf hP h hr
  go_enter Try.func56, Try.ntmps56
  go_wp2_with (first | ((with_reducible refine gate_dst (N := 3) rfl ?_); refine box_event ?hg (N := 3) ?hd (cs := #[.int .i64 0]) (t := 3) ?hr ?_; (case hd => rfl); (case hg => rfl); (case hr => first | (go_simp; done) | (go_simp; rfl)); intro g3 hg w1 hbox hb; have BK := Aside0.mk hbox; have HB := Aside0.mk (show Below w.heap.size w w1 from hb); have G3 := Aside0.mk (show w.heap.size ≤ g3 by omega); clear hb hbox hg; have hc3 := blk_cell BK.out 0; simp only [List.getElem?_toArray, List.getElem?_cons_zero] at hc3; have hf3 := blk_frozen BK.out 0) | ((with_reducible refine gate_value (p := 4) rfl ?_); obtain ⟨W1, hW1⟩ : ∃ W1, W1 = w1.setCell ⟨g3, 0, none⟩ (.int .i64 0) := ⟨_, rfl⟩; have BK1 := Aside0.mk (show W1.heap[g3]? = some (.cells #[.int .i64 0] 3 (0, 0)) by rw [hW1]; exact one_setCell BK.out); have HB1 := Aside0.mk (show Below w.heap.size w W1 by rw [hW1]; exact below_set HB.out G3.out); (first | rw [← hW1] | skip); have HCALL := Aside0.mk (H.out (base := w.heap.size) (fid := 81) (ecaps := #[.pointer (some ⟨g3, 0, none⟩)]) (each := eachCount) (I := fun X => CountI w.heap.size g3 X) 0 m b W1 (HP.out W1 HB1.out) HB1.out.size (fun X hX => count1_ok hX (blk_lt BK1.out)) (fun X w' hb hX => ⟨blk_below BK1.out hb, G3.out, fun k hk => (hX k hk).2⟩) HR.out); refine goesX_ (some 6) rfl rfl HF.out.fn #[.func (.func 81) #[] #[.pointer (some ⟨g3, 0, none⟩)]] rfl (by first | rfl | (simp [Act.eval]; done)) (by (try simp only [List.map_toArray, List.map_cons, List.map_nil]); first | done | rfl) ?_; refine HCALL.out.mono ?_; rintro e w3 ⟨rfl, ⟨X, hX3, hI3⟩, hB3⟩; refine ⟨_, rfl, ?_⟩; have HI3 := Aside0.mk hI3; have HB3 := Aside0.mk hB3; have hc4 := cell_of_one HI3.out.out; clear hX3 hI3 hB3 HCALL))
  go_ret
  exact ⟨rfl, HB1.out.trans HB3.out⟩


end Go.Proofs.Ytmhcgihkijiecaa.Fn
namespace Go.Proofs.Ytmhcgihkijiecaa.Fn
open Go.RowKit Go.Proofs.YtmhcgihkijiecaaW.PrintWords Go.Proofs.YtmhcgihkijiecaaW.PrintLast Go.Proofs.YtmhcgihkijiecaaW.PrintMore
attribute [local go_sem] max2_int min2_int max_two min_two max_three min_three max_four min_four   -- for this text's walks alone
set_option linter.unusedVariables false
set_option linter.unusedSimpArgs false

/-! ### impl_rows: function 80 (given) -/
/-! ### rows: three rows are made, and filled -/
section
variable {P : Program} {ops : Array Oper} {rest : List Oper} {o : Oper} {a : Act} {Q : Exit → Act → World → Prop} {W : World} {K : Act → World → Prop}
theorem made_zeros (n : Nat) : madeCells (Value.int .i64 0).cells (n * 1) = ((List.replicate n (0 : Int)).map (Value.int .i64)).toArray := by
  apply Array.ext'
  simp only [madeCells, Value.cells, Nat.mul_one]
  rw [List.map_replicate, List.eq_replicate_iff]
  simp [Nat.mod_one]
theorem run_zeros (W : World) (n : Nat) (hl : n ≤ 1000) : (Instr.makeSlice 25 (.int .i64 (n : Int)) (.int .i64 (n : Int))).run Try.prog W = .ok (.slice (some ⟨W.heap.size, 0, none⟩) n n) (W.alloc (.cells ((List.replicate n (0 : Int)).map (Value.int .i64)).toArray 3)) := by
  obtain ⟨i0, hi, hzz⟩ := Option.map_eq_some_iff.1 info3
  simp only [Prod.mk.injEq] at hzz
  obtain ⟨hz0, hz1, hz2⟩ := hzz
  have hr := run_make (P := Try.prog) W 25 3 i0 (.int .i64 0) Try.underlying25 hi hz0 .i64 .i64 (n : Int) (n : Int) (by omega) (by omega) (by rw [hz2]; omega) (by omega)
  simp only [Int.toNat_natCast] at hr
  rw [hz1, made_zeros] at hr
  exact hr
theorem IB_below {w w1 : World} {g : Nat} {l : List Int} (h : IB w g l) (hb : Below w.heap.size w w1) : IB w1 g l := blk_below h hb
theorem IB_make_step {n : Nat} {N : Option Tmp} {x y : Operand} (hw : Region.wanted o (yielded ops a.tmps) = true) (hd : o.dst = N) (ho : o.op = .makeSlice 25 x y) (hx : a.eval x = .int .i64 (n : Int)) (hy : a.eval y = .int .i64 (n : Int)) (hl : n ≤ 1000)
    (h : ∀ w1, IB w1 W.heap.size (List.replicate n 0) → Below W.heap.size W w1 → K (a.put N (.slice (some ⟨W.heap.size, 0, none⟩) n n)) w1) : if Region.wanted o (yielded ops a.tmps) = true then Oper.wp Try.prog o a W K Q else K (a.put N undef) W := by
  refine value_ hw hd (v := .slice (some ⟨W.heap.size, 0, none⟩) n n) (w1 := W.alloc (.cells ((List.replicate n (0 : Int)).map (Value.int .i64)).toArray 3)) ?_ (h _ (heap_alloc_new _ _) (below_alloc (Below.refl _ _) _))
  simp [execOp, ho, hx, hy, run_zeros W n hl]
theorem IB_make_event (hgd : o.guard = none) {N : Tmp} (_hd : o.dst = some N) {n : Nat} {x y : Operand} (ho : o.op = .makeSlice 25 x y) (hx : a.eval x = .int .i64 (n : Int)) (hy : a.eval y = .int .i64 (n : Int)) (hl : n ≤ 1000)
    (h : ∀ g, g = W.heap.size → ∀ w1, IB w1 g (List.replicate n 0) → Below W.heap.size W w1 → wpList Try.prog ops Q rest (a.put o.dst (.slice (some ⟨g, 0, none⟩) n n)) w1) : wpList Try.prog ops Q (o :: rest) a W :=
  Kd.event_run hgd (by simp [execOp, ho, hx, hy, run_zeros W n hl]) (h _ rfl _ (heap_alloc_new _ _) (below_alloc (Below.refl _ _) _))
end
theorem set_at {pre : List Int} {i n : Nat} {v : Int} (hp : pre.length = i) (hi : i < n) : (pre ++ List.replicate (n - i) 0).set i v = (pre ++ [v]) ++ List.replicate (n - (i + 1)) 0 := by
  have e : n - i = (n - (i + 1)) + 1 := by omega
  rw [e, List.replicate_succ, List.set_append_right _ _ (by omega), hp, Nat.sub_self]
  simp
def numbersUp (a : Int) (n : Nat) : List Int := (List.range n).map fun i : Nat => a + (i : Int)
theorem numbersUp_succ (a : Int) (n : Nat) : numbersUp a (n + 1) = numbersUp a n ++ [a + (n : Int)] := by
  simp [numbersUp, List.range_succ]
theorem numbersUp_len (a : Int) (n : Nat) : (numbersUp a n).length = n := by simp [numbersUp]
theorem mem_numbersUp {a x : Int} {n : Nat} (h : x ∈ numbersUp a n) : a ≤ x ∧ x < a + n := by
  obtain ⟨i, hi, rfl⟩ := List.mem_map.1 h
  have := List.mem_range.1 hi
  omega
theorem zeros_rd (n j : Nat) : rd (List.replicate n (0 : Int)) (j : Int) = 0 := by
  unfold rd
  rw [Int.toNat_natCast, List.getD_eq_getElem?_getD, List.getElem?_replicate]
  split <;> rfl
/-- The row before it is filled: all places free, but the hole. -/
def rowStart (places : Nat) (hole : Int) : List Int := if 0 ≤ hole then (List.replicate places (-1)).set hole.toNat 0 else List.replicate places (-1)
theorem rowStart_len (places : Nat) (hole : Int) : (rowStart places hole).length = places := by
  unfold rowStart
  split <;> simp
/-- What rows does with the function that it calls. -/
def rowsRun (places n : Nat) (d shift hole : Int) {σ : Type} (each : σ → List Int → Option (σ × Bool)) (s : σ) : Option (σ × Bool) := fillF each (List.replicate places 0) shift (places + 1) s (rowStart places hole) (numbersUp d n)
set_option maxHeartbeats 16000000 in
set_option maxRecDepth 100000 in
theorem rows_call {σ : Type} {base : Nat} {fid : FuncId} {ecaps : Array Value} {each : σ → List Int → Option (σ × Bool)} {I : (Nat → Prop) → σ → World → Prop} (places n : Nat) (d shift hole : Int) (s s' : σ) (b : Bool) (w : World) (hp : places ≤ 100) (hn : n ≤ 100) (hd : 0 ≤ d ∧ d ≤ 100) (hs : 0 ≤ shift ∧ shift ≤ 1) (hh : -1 ≤ hole ∧ hole < places) (hbase : base ≤ w.heap.size)
    (hE : ∀ X : Nat → Prop, (∀ k, X k → w.heap.size ≤ k) → EachOk base X fid ecaps each (I X)) (hI : ∀ (X : Nat → Prop) w', Below w.heap.size w w' → (∀ k, X k → w.heap.size ≤ k ∧ k < w'.heap.size) → I X s w')
    (h : rowsRun places n d shift hole each s = some (s', b)) :
    Calls Try.prog 80 #[.int .i64 (places : Int), .int .i64 (n : Int), .int .i64 d, .int .i64 shift, .int .i64 hole, .func (.func fid) #[] ecaps] w fun e w' => e = .returned (.tuple #[]) ∧ (∃ X : Nat → Prop, (∀ k, X k → w.heap.size ≤ k) ∧ I X s' w') ∧ Below base w w' := by
  have HP := Aside0.mk hp
  have HN := Aside0.mk hn
  have HD := Aside0.mk hd
  have HS := Aside0.mk hs
  have HH := Aside0.mk hh
  have HBASE := Aside0.mk hbase
  have HE := Aside0.mk hE
  have HI := Aside0.mk hI
  have HF := Aside0.mk h
  clear hs hbase hE hI h hd hh
  go_enter Try.func80, Try.ntmps80
  go_upto_region 0 with (fail)
  go_cut [12, 13] (fun v12 v13 wc => ∃ gr gl : Nat, v12 = .slice (some ⟨gr, 0, none⟩) places places ∧ v13 = .slice (some ⟨gl, 0, none⟩) n n ∧ gr ≠ gl ∧ Aside0 (IB wc gr (List.replicate places 0)) ∧ Aside0 (IB wc gl (List.replicate n 0)) ∧ Aside0 (Below w.heap.size w wc) ∧ w.heap.size ≤ gr ∧ w.heap.size ≤ gl)
  case first =>
    refine start_ (n := 6) (S := fun _ => True) (ds := []) #[false, false, false, false, false, false] (by kernel_rfl) rfl rfl trivial (fun hHeld => ?_)
    have HB1 := Aside0.mk (below_drew1 (Below.refl w.heap.size w))
    have HSZ := Aside0.mk (show w.heap.size ≤ w.drew.heap.size from Nat.le_refl _)
    generalize w.drew = w1 at HB1 HSZ hHeld ⊢
    refine pure_ (i := 0) (N := some 16) (v := ?_) (a' := ?_) #[true, false, false, false, false, false] rfl rfl (by kernel_rfl) (fun _ _ _ h => h) (Or.inl ⟨by rfl, ?_⟩) ?_ ?_
    rotate_left
    · intro w'
      go_simp
      with_reducible rfl
    rotate_left
    · simp only [Act.put, List.setIfInBounds_toArray, List.set_cons_zero, List.set_cons_succ, i64_w, i32_w]
      rfl
    refine pure_ (i := 2) (N := some 18) (v := ?_) (a' := ?_) #[true, false, true, false, false, false] rfl rfl (by kernel_rfl) (fun _ _ _ h => h) (Or.inl ⟨by rfl, ?_⟩) ?_ ?_
    rotate_left
    · intro w'
      go_simp
      with_reducible rfl
    rotate_left
    · simp only [Act.put, List.setIfInBounds_toArray, List.set_cons_zero, List.set_cons_succ, i64_w, i32_w]
      rfl
    refine two_ (i := 1) (j := 3) #[true, true, true, false, false, false] #[true, false, true, true, false, false] rfl rfl rfl rfl (by kernel_rfl) (by decide) (by decide) (fun K hK => ?_) (fun K hK => ?_)
    · refine IB_make_step (n := places) (by rfl) rfl rfl rfl rfl (by omega) ?_
      intro w2 hI2 hB2
      refine hK.out _ _ trivial (fun hHeld => ?_)
      clear hK K
      refine norm_ (a' := ?_) ?_ ?_
      rotate_left
      · show Act.put _ (some 17) _ = _
        simp only [Act.put, List.setIfInBounds_toArray, List.set_cons_zero, List.set_cons_succ, i64_w, i32_w]
        rfl
      refine pure_ (i := 4) (N := some 12) (v := ?_) (a' := ?_) #[true, true, true, false, true, false] rfl rfl (by kernel_rfl) (fun _ _ _ h => h) (Or.inl ⟨by rfl, ?_⟩) ?_ ?_
      rotate_left
      · intro w'
        go_simp
        with_reducible rfl
      rotate_left
      · simp only [Act.put, List.setIfInBounds_toArray, List.set_cons_zero, List.set_cons_succ, i64_w, i32_w]
        rfl
      refine one_ (i := 3) (N := some 19) #[true, true, true, true, true, false] rfl rfl (by kernel_rfl) (by decide) (fun K hK => ?_)
      refine IB_make_step (n := n) (by rfl) rfl rfl rfl rfl (by omega) ?_
      intro w3 hI3 hB3
      refine hK.out _ _ trivial (fun hHeld => ?_)
      clear hK K
      refine norm_ (a' := ?_) ?_ ?_
      rotate_left
      · show Act.put _ (some 19) _ = _
        simp only [Act.put, List.setIfInBounds_toArray, List.set_cons_zero, List.set_cons_succ, i64_w, i32_w]
        rfl
      refine pure_ (i := 5) (N := some 13) (v := ?_) (a' := ?_) #[true, true, true, true, true, true] rfl rfl (by kernel_rfl) (fun _ _ _ h => h) (Or.inl ⟨by rfl, ?_⟩) ?_ ?_
      rotate_left
      · intro w'
        go_simp
        with_reducible rfl
      rotate_left
      · simp only [Act.put, List.setIfInBounds_toArray, List.set_cons_zero, List.set_cons_succ, i64_w, i32_w]
        rfl
      refine done_ (by kernel_rfl) ?_
      try go_wp2
      go_meet
      case rel => exact ⟨w1.heap.size, w2.heap.size, rfl, rfl, by have := blk_lt hI2; omega, ⟨IB_below hI2 hB3⟩, ⟨hI3⟩, ⟨HB1.out.trans ((hB2.mono HSZ.out).trans (hB3.mono (Nat.le_trans HSZ.out hB2.size)))⟩, HSZ.out, Nat.le_trans HSZ.out hB2.size⟩
    · refine IB_make_step (n := n) (by rfl) rfl rfl rfl rfl (by omega) ?_
      intro w2 hI2 hB2
      refine hK.out _ _ trivial (fun hHeld => ?_)
      clear hK K
      refine norm_ (a' := ?_) ?_ ?_
      rotate_left
      · show Act.put _ (some 19) _ = _
        simp only [Act.put, List.setIfInBounds_toArray, List.set_cons_zero, List.set_cons_succ, i64_w, i32_w]
        rfl
      refine one_ (i := 1) (N := some 17) #[true, true, true, true, false, false] rfl rfl (by kernel_rfl) (by decide) (fun K hK => ?_)
      refine IB_make_step (n := places) (by rfl) rfl rfl rfl rfl (by omega) ?_
      intro w3 hI3 hB3
      refine hK.out _ _ trivial (fun hHeld => ?_)
      clear hK K
      refine norm_ (a' := ?_) ?_ ?_
      rotate_left
      · show Act.put _ (some 17) _ = _
        simp only [Act.put, List.setIfInBounds_toArray, List.set_cons_zero, List.set_cons_succ, i64_w, i32_w]
        rfl
      refine pure_ (i := 4) (N := some 12) (v := ?_) (a' := ?_) #[true, true, true, true, true, false] rfl rfl (by kernel_rfl) (fun _ _ _ h => h) (Or.inl ⟨by rfl, ?_⟩) ?_ ?_
      rotate_left
      · intro w'
        go_simp
        with_reducible rfl
      rotate_left
      · simp only [Act.put, List.setIfInBounds_toArray, List.set_cons_zero, List.set_cons_succ, i64_w, i32_w]
        rfl
      refine pure_ (i := 5) (N := some 13) (v := ?_) (a' := ?_) #[true, true, true, true, true, true] rfl rfl (by kernel_rfl) (fun _ _ _ h => h) (Or.inl ⟨by rfl, ?_⟩) ?_ ?_
      rotate_left
      · intro w'
        go_simp
        with_reducible rfl
      rotate_left
      · simp only [Act.put, List.setIfInBounds_toArray, List.set_cons_zero, List.set_cons_succ, i64_w, i32_w]
        rfl
      refine done_ (by kernel_rfl) ?_
      try go_wp2
      go_meet
      case rel => exact ⟨w2.heap.size, w1.heap.size, rfl, rfl, by have := blk_lt hI2; omega, ⟨hI3⟩, ⟨IB_below hI2 hB3⟩, ⟨HB1.out.trans ((hB2.mono HSZ.out).trans (hB3.mono (Nat.le_trans HSZ.out hB2.size)))⟩, Nat.le_trans HSZ.out hB2.size, HSZ.out⟩
  case rest =>
    obtain ⟨gr, gl, rfl, rfl, hne, HR, HL, HB, hgr, hgl⟩ := hcut
    have HNE := Aside0.mk hne
    have HGR := Aside0.mk hgr
    have HGL := Aside0.mk hgl
    clear hne hgr hgl
    go_wp2
    go_loopw [22] (fun v22 wr => ∃ i : Nat, i ≤ places ∧ v22 = .int .i64 i ∧ Aside0 (At2 w.heap.size gr gl wc wr (List.replicate i (-1) ++ List.replicate (places - i) 0) (List.replicate n 0))) (fun v _ => places - (intOf v).toNat)
    case atStart => exact ⟨0, Nat.zero_le _, rfl, ⟨At2.refl _ HR.out HL.out⟩⟩
    case round =>
      obtain ⟨i, hi, rfl, HA⟩ := hrel
      by_cases hlt : i < places
      · have hc1 := HA.out.row.cell i (by simp; omega)
        have hf1 := blk_frozen HA.out.row i
        have HLT := Aside0.mk hlt
        go_wp2
        go_roundw
        case rel =>
          refine ⟨i + 1, HLT.out, by go_num, ⟨?_⟩⟩
          have h := HA.out.putR HNE.out (by have := HGR.out; omega) i (-1) rfl
          rw [set_at (by simp) HLT.out, ← List.replicate_succ'] at h
          exact h
        case measure => simp [intOf]; have := HLT.out; omega
      · obtain rfl : i = places := by omega
        have HA := Aside0.mk (show At2 w.heap.size gr gl wc wr (List.replicate i (-1)) (List.replicate n 0) by simpa using HA.out)
        clear hlt hi
        have hd := HD.out
        by_cases hz : 0 ≤ hole
        · obtain ⟨hn0, rfl⟩ : ∃ hn : Nat, hole = (hn : Int) := ⟨hole.toNat, by omega⟩
          have hlh : hn0 < i := by have := HH.out.2; omega
          have hc1 := HA.out.row.cell hn0 (by simp; omega)
          have hf1 := blk_frozen HA.out.row hn0
          have hA9 : ∀ w', w' = wr.setCell ⟨gr, hn0, none⟩ (.int .i64 0) → At2 w.heap.size gr gl wc w' (rowStart i (hn0 : Int)) (List.replicate n 0) := fun w' hw => by
            have h := HA.out.putR HNE.out (by have := HGR.out; omega) hn0 0 hw
            unfold rowStart
            rw [if_pos (by omega), Int.toNat_natCast]
            exact h
          have HA9 := Aside0.mk hA9
          clear hA9
          go_wp2
          have HA := Aside0.mk (HA9.out _ rfl)
          generalize hW : wr.setCell _ _ = wr2 at HA ⊢
          clear hc1 hf1
          go_loopw [36] (fun v36 wq => ∃ j : Nat, j ≤ n ∧ v36 = .int .i64 j ∧ Aside0 (At2 w.heap.size gr gl wc wq (rowStart i (hn0 : Int)) (numbersUp d j ++ List.replicate (n - j) 0))) (fun v _ => n - (intOf v).toNat)
          case atStart => exact ⟨0, Nat.zero_le _, rfl, ⟨by simpa [numbersUp] using HA.out⟩⟩
          case round =>
            obtain ⟨j, hj, rfl, HA2⟩ := hrel
            by_cases hlt : j < n
            · have hc1 := HA2.out.left.cell j (by simp [numbersUp_len]; omega)
              have hf1 := blk_frozen HA2.out.left j
              have HLT := Aside0.mk hlt
              go_wp2
              go_roundw
              case rel =>
                refine ⟨j + 1, HLT.out, by go_num, ⟨?_⟩⟩
                have h := HA2.out.putL HNE.out (by have := HGL.out; omega) j (d + (j : Int)) rfl
                rw [set_at (numbersUp_len _ _) HLT.out, ← numbersUp_succ] at h
                exact h
              case measure => simp [intOf]; have := HLT.out; omega
            · obtain rfl : j = n := by omega
              have HA3 := Aside0.mk (show At2 w.heap.size gr gl wc wr (rowStart i (hn0 : Int)) (numbersUp d j) by simpa using HA2.out)
              clear hlt hj HA2 HA
              go_wp2_with (first | ((with_reducible refine gate_dst (N := 48) rfl ?_); refine IB_make_event (N := 48) (x := .tmp 47) (y := .tmp 47) (n := i) ?hg ?hd ?ho ?hx ?hy (Nat.le_trans HP.out (by decide)) ?_; (case hg => rfl); (case hd => rfl); (case ho => rfl); (case hx => rfl); (case hy => rfl); intro gt hgt w4 hI4 hB4; have HGT := Aside0.mk hgt; have HI4 := Aside0.mk hI4; have HB4 := Aside0.mk hB4; have HX := Aside0.mk (show ∀ k, (k = gr ∨ k = gl ∨ k = gt) → w.heap.size ≤ k from fun k hk => by have h1 := HGR.out; have h2 := HGL.out; have h3 := (HB.out.trans HA3.out.below).size; omega); have HB0 := Aside0.mk (below_step (HB.out.trans HA3.out.below) hB4); have hcall := fill_calls (HE.out (fun k => k = gr ∨ k = gl ∨ k = gt) HX.out) (List.replicate i 0) ⟨gt, 0, none⟩ i shift HS.out gr gl (.inl rfl) (.inr (.inl rfl)) HNE.out (by have := HGR.out; have := HBASE.out; omega) (by have := HGL.out; have := HBASE.out; omega) (fun e => by have h1 := blk_lt HA3.out.row; have h2 : gt = gr := e; omega) (fun e => by have h1 := blk_lt HA3.out.left; have h2 : gt = gl := e; omega) (.inr (.inr (.inr rfl))) (i + 1) s s' b (rowStart i (hn0 : Int)) (numbersUp d j) w4 (by rw [rowStart_len]; simp) (by rw [rowStart_len]; have := HP.out; omega) (by rw [numbersUp_len]; have := HN.out; omega) (fun x hx => by have h1 := mem_numbersUp hx; have h2 := HN.out; have h3 := HD.out; omega) (HI.out _ w4 HB0.out (fun k hk => ⟨HX.out k hk, by have h1 := blk_lt HA3.out.row; have h2 := blk_lt HA3.out.left; have h3 := blk_lt hI4; have h4 := hB4.size; omega⟩)) (IB_below HA3.out.row hB4) (IB_below HA3.out.left hB4) (fun x hx => by rw [zeros_rd, add_block0]; have h1 := hI4.cell x (by simpa using hx); rw [zeros_rd] at h1; exact h1) HF.out; rw [rowStart_len, numbersUp_len, List.length_replicate] at hcall; have HCALL := Aside0.mk hcall; clear hcall hgt hI4 hB4) | ((with_reducible refine gate_callee (f := 94) rfl ?_); refine goesL_ (some 52) rfl rfl Try.func94 (by kernel_rfl) rfl #[.slice (some ⟨gr, 0, none⟩) i i, .slice (some ⟨gt, 0, none⟩) i i, .slice (some ⟨gl, 0, none⟩) j j, .int .i64 shift, .func (.func fid) #[] ecaps] rfl (by (try simp only [List.map_toArray, List.map_cons, List.map_nil]); first | done | rfl) ?_; refine HCALL.out.mono ?_; rintro e w5 ⟨rfl, hI5, hB5, hX5⟩; refine ⟨_, rfl, ?_⟩; have HI5 := Aside0.mk hI5; have HB5 := Aside0.mk hB5; clear hI5 hB5 hX5))
              first | go_end0 | ((try simp only [Exit.inBlock, Exit.then]); refine bodyPost_ret (results_none rfl _ _ _) rfl ?_)
              exact ⟨rfl, ⟨_, HX.out, HI5.out⟩, (HB0.out.mono HBASE.out).trans HB5.out⟩
        · have HA9 := Aside0.mk (show At2 w.heap.size gr gl wc wr (rowStart i hole) (List.replicate n 0) by
            unfold rowStart
            rw [if_neg hz]
            exact HA.out)
          have hz1 : hole < 0 := by omega
          clear HA
          have HA := HA9
          clear HA9
          go_wp2
          go_loopw [36] (fun v36 wq => ∃ j : Nat, j ≤ n ∧ v36 = .int .i64 j ∧ Aside0 (At2 w.heap.size gr gl wc wq (rowStart i hole) (numbersUp d j ++ List.replicate (n - j) 0))) (fun v _ => n - (intOf v).toNat)
          case atStart => exact ⟨0, Nat.zero_le _, rfl, ⟨by simpa [numbersUp] using HA.out⟩⟩
          case round =>
            obtain ⟨j, hj, rfl, HA2⟩ := hrel
            by_cases hlt : j < n
            · have hc1 := HA2.out.left.cell j (by simp [numbersUp_len]; omega)
              have hf1 := blk_frozen HA2.out.left j
              have HLT := Aside0.mk hlt
              go_wp2
              go_roundw
              case rel =>
                refine ⟨j + 1, HLT.out, by go_num, ⟨?_⟩⟩
                have h := HA2.out.putL HNE.out (by have := HGL.out; omega) j (d + (j : Int)) rfl
                rw [set_at (numbersUp_len _ _) HLT.out, ← numbersUp_succ] at h
                exact h
              case measure => simp [intOf]; have := HLT.out; omega
            · obtain rfl : j = n := by omega
              have HA3 := Aside0.mk (show At2 w.heap.size gr gl wc wr (rowStart i hole) (numbersUp d j) by simpa using HA2.out)
              clear hlt hj HA2 HA
              go_wp2_with (first | ((with_reducible refine gate_dst (N := 48) rfl ?_); refine IB_make_event (N := 48) (x := .tmp 47) (y := .tmp 47) (n := i) ?hg ?hd ?ho ?hx ?hy (Nat.le_trans HP.out (by decide)) ?_; (case hg => rfl); (case hd => rfl); (case ho => rfl); (case hx => rfl); (case hy => rfl); intro gt hgt w4 hI4 hB4; have HGT := Aside0.mk hgt; have HI4 := Aside0.mk hI4; have HB4 := Aside0.mk hB4; have HX := Aside0.mk (show ∀ k, (k = gr ∨ k = gl ∨ k = gt) → w.heap.size ≤ k from fun k hk => by have h1 := HGR.out; have h2 := HGL.out; have h3 := (HB.out.trans HA3.out.below).size; omega); have HB0 := Aside0.mk (below_step (HB.out.trans HA3.out.below) hB4); have hcall := fill_calls (HE.out (fun k => k = gr ∨ k = gl ∨ k = gt) HX.out) (List.replicate i 0) ⟨gt, 0, none⟩ i shift HS.out gr gl (.inl rfl) (.inr (.inl rfl)) HNE.out (by have := HGR.out; have := HBASE.out; omega) (by have := HGL.out; have := HBASE.out; omega) (fun e => by have h1 := blk_lt HA3.out.row; have h2 : gt = gr := e; omega) (fun e => by have h1 := blk_lt HA3.out.left; have h2 : gt = gl := e; omega) (.inr (.inr (.inr rfl))) (i + 1) s s' b (rowStart i hole) (numbersUp d j) w4 (by rw [rowStart_len]; simp) (by rw [rowStart_len]; have := HP.out; omega) (by rw [numbersUp_len]; have := HN.out; omega) (fun x hx => by have h1 := mem_numbersUp hx; have h2 := HN.out; have h3 := HD.out; omega) (HI.out _ w4 HB0.out (fun k hk => ⟨HX.out k hk, by have h1 := blk_lt HA3.out.row; have h2 := blk_lt HA3.out.left; have h3 := blk_lt hI4; have h4 := hB4.size; omega⟩)) (IB_below HA3.out.row hB4) (IB_below HA3.out.left hB4) (fun x hx => by rw [zeros_rd, add_block0]; have h1 := hI4.cell x (by simpa using hx); rw [zeros_rd] at h1; exact h1) HF.out; rw [rowStart_len, numbersUp_len, List.length_replicate] at hcall; have HCALL := Aside0.mk hcall; clear hcall hgt hI4 hB4) | ((with_reducible refine gate_callee (f := 94) rfl ?_); refine goesL_ (some 52) rfl rfl Try.func94 (by kernel_rfl) rfl #[.slice (some ⟨gr, 0, none⟩) i i, .slice (some ⟨gt, 0, none⟩) i i, .slice (some ⟨gl, 0, none⟩) j j, .int .i64 shift, .func (.func fid) #[] ecaps] rfl (by (try simp only [List.map_toArray, List.map_cons, List.map_nil]); first | done | rfl) ?_; refine HCALL.out.mono ?_; rintro e w5 ⟨rfl, hI5, hB5, hX5⟩; refine ⟨_, rfl, ?_⟩; have HI5 := Aside0.mk hI5; have HB5 := Aside0.mk hB5; clear hI5 hB5 hX5))
              first | go_end0 | ((try simp only [Exit.inBlock, Exit.then]); refine bodyPost_ret (results_none rfl _ _ _) rfl ?_)
              exact ⟨rfl, ⟨_, HX.out, HI5.out⟩, (HB0.out.mono HBASE.out).trans HB5.out⟩


end Go.Proofs.Ytmhcgihkijiecaa.Fn
namespace Go.Proofs.Ytmhcgihkijiecaa.Fn
open Go.RowKit Go.Proofs.YtmhcgihkijiecaaW.PrintWords Go.Proofs.YtmhcgihkijiecaaW.PrintLast Go.Proofs.YtmhcgihkijiecaaW.PrintMore
attribute [local go_sem] max2_int min2_int max_two min_two max_three min_three max_four min_four   -- for this text's walks alone
set_option linter.unusedVariables false
set_option linter.unusedSimpArgs false

/-! ### impl_extendedKind: function 55 (given) -/
/-! ### the kind of the extended rows -/
def extOk (n hole : Int) : Bool := decide (1 ≤ n ∧ n ≤ 7 ∧ 0 ≤ hole ∧ hole ≤ 2 * n)
def extRun (n hole : Int) {σ : Type} (each : σ → List Int → Option (σ × Bool)) (s : σ) : Option (σ × Bool) := if extOk n hole = true then rowsRun (2 * n.toNat + 1) n.toNat 1 0 hole each s else some (s, false)
set_option maxHeartbeats 8000000 in
set_option maxRecDepth 100000 in
theorem ext1_ok (hole n : Int) (h : extOk n hole = false) : KindOk 78 #[] (fun _ => True) (fun {σ} each s => extRun n hole (σ := σ) each s) := by
  intro σ base fid ecaps each I s s' b w hPre hbase hE hI hr
  have hr' : some (s, false) = some (s', b) := by
    have h1 : ¬ extOk n hole = true := by rw [h]; decide
    simpa only [extRun, if_neg h1] using hr
  obtain ⟨rfl, rfl⟩ := Prod.mk.inj (Option.some.inj hr')
  have HB := Aside0.mk hbase
  have HI := Aside0.mk (hI (fun _ => False) w (Below.refl _ _) (fun _ hk => hk.elim))
  clear hr hr' hE hI hbase hPre h
  show Calls Try.prog 78 #[.func (.func fid) #[] ecaps] w _
  go_enter Try.func78, Try.ntmps78
  try go_wp2
  first | go_end0 | ((try simp only [Exit.inBlock, Exit.then]); refine bodyPost_ret (results_none rfl _ _ _) rfl ?_)
  exact ⟨rfl, ⟨_, fun _ hk => hk.elim, HI.out⟩, Below.refl _ _⟩
set_option maxHeartbeats 8000000 in
set_option maxRecDepth 100000 in
theorem ext2_ok (g2 g3 : Nat) (hole n : Int) (h : extOk n hole = true) : KindOk 79 #[.pointer (some ⟨g2, 0, none⟩), .pointer (some ⟨g3, 0, none⟩)] (fun w => w.heap[g2]? = some (.cells #[.int .i64 n] 3 (0, 0)) ∧ w.heap[g3]? = some (.cells #[.int .i64 hole] 3 (0, 0))) (fun {σ} each s => extRun n hole (σ := σ) each s) := by
  intro σ base fid ecaps each I s s' b w hPre hbase hE hI hr
  simp only [extRun, if_pos h] at hr
  have hd := of_decide_eq_true h
  obtain ⟨m, rfl⟩ : ∃ m : Nat, n = (m : Int) := ⟨n.toNat, by omega⟩
  rw [Int.toNat_natCast] at hr
  have hc2 := cell_of_one hPre.1
  have hc3 := cell_of_one hPre.2
  have hw1 := wrap_in (n := 2 * (m : Int)) (by omega) (by omega)
  have hw2 := wrap_in (n := 2 * (m : Int) + 1) (by omega) (by omega)
  have HCALL := Aside0.mk (rows_call (2 * m + 1) m 1 0 hole s s' b w (by omega) (by omega) (by omega) (by omega) (by omega) hbase hE hI hr)
  have hcast : ((2 * m + 1 : Nat) : Int) = 2 * (m : Int) + 1 := by omega
  rw [hcast] at HCALL
  clear hr hE hI hbase hPre h hd hcast
  show Calls Try.prog 79 #[.func (.func fid) #[] ecaps, .pointer (some ⟨g2, 0, none⟩), .pointer (some ⟨g3, 0, none⟩)] w _
  go_enter Try.func79, Try.ntmps79
  go_wp2_with (first | ((with_reducible refine gate_callee (f := 80) rfl ?_); refine goesL_ (some 10) rfl rfl Try.func80 (by kernel_rfl) rfl #[.int .i64 (wrap64 (2 * (m : Int) + 1)), .int .i64 (m : Int), .int .i64 1, .int .i64 0, .int .i64 hole, .func (.func fid) #[] ecaps] rfl (by (try simp only [List.map_toArray, List.map_cons, List.map_nil]); first | done | rfl) ?_; rw [hw2]; refine HCALL.out.mono ?_; rintro e w5 ⟨rfl, hI5, hB5⟩; refine ⟨_, rfl, ?_⟩; have HI5 := Aside0.mk hI5; have HB5 := Aside0.mk hB5; clear hI5 hB5))
  first | go_end0 | ((try simp only [Exit.inBlock, Exit.then]); refine bodyPost_ret (results_none rfl _ _ _) rfl ?_)
  exact ⟨rfl, HI5.out, HB5.out⟩
def ExtRet (n hole : Int) (w : World) (e : Ending) (w' : World) : Prop := ∃ (kf : FuncId) (kcaps : Array Value) (Pre : World → Prop), e = .returned (.tuple #[.func (.func kf) #[] kcaps, .bool (extOk n hole)]) ∧ KindFn kf ∧ (∀ w2, Below w'.heap.size w' w2 → Pre w2) ∧ KindOk kf kcaps Pre (fun {σ} each s => extRun n hole (σ := σ) each s) ∧ Below w.heap.size w w'
set_option maxHeartbeats 8000000 in
set_option maxRecDepth 100000 in
theorem ext_no1 (a0 a1 : Int) (w : World) (h1 : a0 < 1) :
    Calls Try.prog 55 #[.int .i64 a0, .int .i64 a1] w (ExtRet a0 a1 w) := by
  have HOK := Aside0.mk (show extOk a0 a1 = false from decide_eq_false (by omega))
  have b1 : decide (a0 < 1) = true := decide_eq_true h1
  clear h1
  go_enter Try.func55, Try.ntmps55
  go_wp2_with (first | ((with_reducible refine gate_dst (N := 2) rfl ?_); refine box_event ?hg (N := 2) ?hd (cs := #[.int .i64 a0]) (t := 3) ?hr ?_; (case hd => rfl); (case hg => rfl); (case hr => first | (go_simp; done) | (go_simp; rfl)); intro g2 hg w1 hbox hb; have BK2 := Aside0.mk hbox; have HB2 := Aside0.mk hb; clear hb hbox hg) | ((with_reducible refine gate_dst (N := 3) rfl ?_); refine box_event ?hg (N := 3) ?hd (cs := #[.int .i64 a1]) (t := 3) ?hr ?_; (case hd => rfl); (case hg => rfl); (case hr => first | (go_simp; done) | (go_simp; rfl)); intro g3 hg w2 hbox hb; have BK3 := Aside0.mk hbox; have HB3 := Aside0.mk hb; have BK2n := Aside0.mk (blk_below BK2.out hb); clear BK2; have BK2 := BK2n; clear BK2n; have hc2 := blk_cell BK2.out 0; have hc3 := blk_cell BK3.out 0; simp only [List.getElem?_toArray, List.getElem?_cons_zero] at hc2 hc3; have HB := Aside0.mk (show Below w.heap.size w w2 from HB2.out.trans (HB3.out.mono HB2.out.size)); clear hb hbox hg))
  go_ret2
  refine ⟨78, #[], fun _ => True, by rw [HOK.out]; rfl, ⟨_, Try.func78, by kernel_rfl, rfl⟩, fun _ _ => trivial, ext1_ok a1 a0 HOK.out, HB.out⟩
set_option maxHeartbeats 8000000 in
set_option maxRecDepth 100000 in
theorem ext_no2 (a0 a1 : Int) (w : World) (h1 : 7 < a0) :
    Calls Try.prog 55 #[.int .i64 a0, .int .i64 a1] w (ExtRet a0 a1 w) := by
  have HOK := Aside0.mk (show extOk a0 a1 = false from decide_eq_false (by omega))
  have b1 : decide (a0 < 1) = false := decide_eq_false (by omega)
  have b2 : decide (7 < a0) = true := decide_eq_true h1
  clear h1
  go_enter Try.func55, Try.ntmps55
  go_wp2_with (first | ((with_reducible refine gate_dst (N := 2) rfl ?_); refine box_event ?hg (N := 2) ?hd (cs := #[.int .i64 a0]) (t := 3) ?hr ?_; (case hd => rfl); (case hg => rfl); (case hr => first | (go_simp; done) | (go_simp; rfl)); intro g2 hg w1 hbox hb; have BK2 := Aside0.mk hbox; have HB2 := Aside0.mk hb; clear hb hbox hg) | ((with_reducible refine gate_dst (N := 3) rfl ?_); refine box_event ?hg (N := 3) ?hd (cs := #[.int .i64 a1]) (t := 3) ?hr ?_; (case hd => rfl); (case hg => rfl); (case hr => first | (go_simp; done) | (go_simp; rfl)); intro g3 hg w2 hbox hb; have BK3 := Aside0.mk hbox; have HB3 := Aside0.mk hb; have BK2n := Aside0.mk (blk_below BK2.out hb); clear BK2; have BK2 := BK2n; clear BK2n; have hc2 := blk_cell BK2.out 0; have hc3 := blk_cell BK3.out 0; simp only [List.getElem?_toArray, List.getElem?_cons_zero] at hc2 hc3; have HB := Aside0.mk (show Below w.heap.size w w2 from HB2.out.trans (HB3.out.mono HB2.out.size)); clear hb hbox hg))
  go_ret2
  refine ⟨78, #[], fun _ => True, by rw [HOK.out]; rfl, ⟨_, Try.func78, by kernel_rfl, rfl⟩, fun _ _ => trivial, ext1_ok a1 a0 HOK.out, HB.out⟩
set_option maxHeartbeats 8000000 in
set_option maxRecDepth 100000 in
theorem ext_no3 (a0 a1 : Int) (w : World) (h1 : 1 ≤ a0 ∧ a0 ≤ 7) (h2 : a1 < 0) :
    Calls Try.prog 55 #[.int .i64 a0, .int .i64 a1] w (ExtRet a0 a1 w) := by
  have HOK := Aside0.mk (show extOk a0 a1 = false from decide_eq_false (by omega))
  have b1 : decide (a0 < 1) = false := decide_eq_false (by omega)
  have b2 : decide (7 < a0) = false := decide_eq_false (by omega)
  have b3 : decide (a1 < 0) = true := decide_eq_true h2
  clear h1 h2
  go_enter Try.func55, Try.ntmps55
  go_wp2_with (first | ((with_reducible refine gate_dst (N := 2) rfl ?_); refine box_event ?hg (N := 2) ?hd (cs := #[.int .i64 a0]) (t := 3) ?hr ?_; (case hd => rfl); (case hg => rfl); (case hr => first | (go_simp; done) | (go_simp; rfl)); intro g2 hg w1 hbox hb; have BK2 := Aside0.mk hbox; have HB2 := Aside0.mk hb; clear hb hbox hg) | ((with_reducible refine gate_dst (N := 3) rfl ?_); refine box_event ?hg (N := 3) ?hd (cs := #[.int .i64 a1]) (t := 3) ?hr ?_; (case hd => rfl); (case hg => rfl); (case hr => first | (go_simp; done) | (go_simp; rfl)); intro g3 hg w2 hbox hb; have BK3 := Aside0.mk hbox; have HB3 := Aside0.mk hb; have BK2n := Aside0.mk (blk_below BK2.out hb); clear BK2; have BK2 := BK2n; clear BK2n; have hc2 := blk_cell BK2.out 0; have hc3 := blk_cell BK3.out 0; simp only [List.getElem?_toArray, List.getElem?_cons_zero] at hc2 hc3; have HB := Aside0.mk (show Below w.heap.size w w2 from HB2.out.trans (HB3.out.mono HB2.out.size)); clear hb hbox hg))
  go_ret2
  refine ⟨78, #[], fun _ => True, by rw [HOK.out]; rfl, ⟨_, Try.func78, by kernel_rfl, rfl⟩, fun _ _ => trivial, ext1_ok a1 a0 HOK.out, HB.out⟩
set_option maxHeartbeats 8000000 in
set_option maxRecDepth 100000 in
theorem ext_no4 (a0 a1 : Int) (w : World) (h1 : 1 ≤ a0 ∧ a0 ≤ 7) (h2 : 2 * a0 < a1) :
    Calls Try.prog 55 #[.int .i64 a0, .int .i64 a1] w (ExtRet a0 a1 w) := by
  have HOK := Aside0.mk (show extOk a0 a1 = false from decide_eq_false (by omega))
  have b1 : decide (a0 < 1) = false := decide_eq_false (by omega)
  have b2 : decide (7 < a0) = false := decide_eq_false (by omega)
  have b3 : decide (a1 < 0) = false := decide_eq_false (by omega)
  have hw := wrap_in (n := 2 * a0) (by omega) (by omega)
  have b4 : decide (2 * a0 < a1) = true := decide_eq_true h2
  clear h1 h2
  go_enter Try.func55, Try.ntmps55
  go_wp2_with (first | ((with_reducible refine gate_dst (N := 2) rfl ?_); refine box_event ?hg (N := 2) ?hd (cs := #[.int .i64 a0]) (t := 3) ?hr ?_; (case hd => rfl); (case hg => rfl); (case hr => first | (go_simp; done) | (go_simp; rfl)); intro g2 hg w1 hbox hb; have BK2 := Aside0.mk hbox; have HB2 := Aside0.mk hb; clear hb hbox hg) | ((with_reducible refine gate_dst (N := 3) rfl ?_); refine box_event ?hg (N := 3) ?hd (cs := #[.int .i64 a1]) (t := 3) ?hr ?_; (case hd => rfl); (case hg => rfl); (case hr => first | (go_simp; done) | (go_simp; rfl)); intro g3 hg w2 hbox hb; have BK3 := Aside0.mk hbox; have HB3 := Aside0.mk hb; have BK2n := Aside0.mk (blk_below BK2.out hb); clear BK2; have BK2 := BK2n; clear BK2n; have hc2 := blk_cell BK2.out 0; have hc3 := blk_cell BK3.out 0; simp only [List.getElem?_toArray, List.getElem?_cons_zero] at hc2 hc3; have HB := Aside0.mk (show Below w.heap.size w w2 from HB2.out.trans (HB3.out.mono HB2.out.size)); clear hb hbox hg))
  go_ret2
  refine ⟨78, #[], fun _ => True, by rw [HOK.out]; rfl, ⟨_, Try.func78, by kernel_rfl, rfl⟩, fun _ _ => trivial, ext1_ok a1 a0 HOK.out, HB.out⟩
set_option maxHeartbeats 8000000 in
set_option maxRecDepth 100000 in
theorem ext_yes (a0 a1 : Int) (w : World) (h1 : 1 ≤ a0 ∧ a0 ≤ 7) (h2 : 0 ≤ a1) (h3 : a1 ≤ 2 * a0) :
    Calls Try.prog 55 #[.int .i64 a0, .int .i64 a1] w (ExtRet a0 a1 w) := by
  have HOK := Aside0.mk (show extOk a0 a1 = true from decide_eq_true (by omega))
  have b1 : decide (a0 < 1) = false := decide_eq_false (by omega)
  have b2 : decide (7 < a0) = false := decide_eq_false (by omega)
  have b3 : decide (a1 < 0) = false := decide_eq_false (by omega)
  have hw := wrap_in (n := 2 * a0) (by omega) (by omega)
  have b4 : decide (2 * a0 < a1) = false := decide_eq_false (by omega)
  clear h1 h2 h3
  go_enter Try.func55, Try.ntmps55
  go_wp2_with (first | ((with_reducible refine gate_dst (N := 2) rfl ?_); refine box_event ?hg (N := 2) ?hd (cs := #[.int .i64 a0]) (t := 3) ?hr ?_; (case hd => rfl); (case hg => rfl); (case hr => first | (go_simp; done) | (go_simp; rfl)); intro g2 hg w1 hbox hb; have BK2 := Aside0.mk hbox; have HB2 := Aside0.mk hb; clear hb hbox hg) | ((with_reducible refine gate_dst (N := 3) rfl ?_); refine box_event ?hg (N := 3) ?hd (cs := #[.int .i64 a1]) (t := 3) ?hr ?_; (case hd => rfl); (case hg => rfl); (case hr => first | (go_simp; done) | (go_simp; rfl)); intro g3 hg w2 hbox hb; have BK3 := Aside0.mk hbox; have HB3 := Aside0.mk hb; have BK2n := Aside0.mk (blk_below BK2.out hb); clear BK2; have BK2 := BK2n; clear BK2n; have hc2 := blk_cell BK2.out 0; have hc3 := blk_cell BK3.out 0; simp only [List.getElem?_toArray, List.getElem?_cons_zero] at hc2 hc3; have HB := Aside0.mk (show Below w.heap.size w w2 from HB2.out.trans (HB3.out.mono HB2.out.size)); clear hb hbox hg))
  go_ret2
  refine ⟨79, #[.pointer (some ⟨g2, 0, none⟩), .pointer (some ⟨g3, 0, none⟩)], fun w => w.heap[g2]? = some (.cells #[.int .i64 a0] 3 (0, 0)) ∧ w.heap[g3]? = some (.cells #[.int .i64 a1] 3 (0, 0)), by rw [HOK.out]; rfl, ⟨_, Try.func79, by kernel_rfl, rfl⟩, fun w3 hb => ⟨blk_below BK2.out hb, blk_below BK3.out hb⟩, ext2_ok g2 g3 a1 a0 HOK.out, HB.out⟩
theorem impl_extendedKind_call (a0 a1 : Int) (w : World) : Calls Try.prog 55 #[.int .i64 a0, .int .i64 a1] w (ExtRet a0 a1 w) := by
  by_cases h1 : a0 < 1
  · exact ext_no1 a0 a1 w h1
  · by_cases h2 : 7 < a0
    · exact ext_no2 a0 a1 w h2
    · by_cases h3 : a1 < 0
      · exact ext_no3 a0 a1 w ⟨by omega, by omega⟩ h3
      · by_cases h4 : 2 * a0 < a1
        · exact ext_no4 a0 a1 w ⟨by omega, by omega⟩ h4
        · exact ext_yes a0 a1 w ⟨by omega, by omega⟩ (by omega) (by omega)


end Go.Proofs.Ytmhcgihkijiecaa.Fn
namespace Go.Proofs.Ytmhcgihkijiecaa.Fn
open Go.RowKit Go.Proofs.YtmhcgihkijiecaaW.PrintWords Go.Proofs.YtmhcgihkijiecaaW.PrintLast Go.Proofs.YtmhcgihkijiecaaW.PrintMore
attribute [local go_sem] max2_int min2_int max_two min_two max_three min_three max_four min_four   -- for this text's walks alone
set_option linter.unusedVariables false
set_option linter.unusedSimpArgs false

/-! ### spec_l1Own: function 50 -/
def spec_l1Own.f (l0 : List Int) : Option (List Int) := (some (([] : List Int) : List Int)).bind fun y113 => (if y113.length + l0.length < 17592186044416 then (some (y113 ++ l0)) else (none))
set_option maxHeartbeats 8000000 in
set_option maxRecDepth 100000 in
theorem spec_l1Own.calls (A0 : Option Addr) (c0 : Nat) (l0 : List Int) (r : List Int) (w : World) (hr0 : Kd.C (Kd.int .i64) w A0 l0.length l0) (hc0 : l0.length ≤ c0) (h : spec_l1Own.f l0 = some r) :
    Calls Try.prog 50 #[.slice A0 l0.length c0] w fun e w' => ∃ v0_ : Value, e = .returned (v0_) ∧ Kd.R (Kd.int .i64) 3 w' w.heap.size (fun _ => True) v0_ r ∧ Below w.heap.size w w' := by
  have HR0 := Aside0.mk hr0
  have HC0 := Aside0.mk hc0
  clear hr0 hc0
  have HB := Aside0.mk (Below.refl w.heap.size w)
  have H : ((some (([] : List Int) : List Int)).bind fun y113 => (if y113.length + l0.length < 17592186044416 then (some (y113 ++ l0)) else (none))) = some r := h
  clear h
  obtain ⟨y113, hy113⟩ : ∃ y_ : List Int, y_ = (([] : List Int)) := ⟨_, rfl⟩
  replace H : (if y113.length + l0.length < 17592186044416 then (some (y113 ++ l0)) else (none)) = some r := by first | (rw [hy113]; with_reducible exact H) | (have H2_ := (Option.bind_some _ _).symm.trans H; rw [hy113]; with_reducible exact H2_) | (have H2_ := (Option.bind_some _ _).symm.trans H; with_reducible exact H2_) | with_reducible exact H | (rw [hy113]; exact H) | exact H
  have Ny113 := Aside0.mk hy113
  clear hy113
  by_cases c2 : y113.length + l0.length < 17592186044416
  · rw [if_pos c2] at H
    have LMc2 := Aside0.mk c2
    clear c2
    obtain ⟨y116, hy116⟩ : ∃ y_ : List Int, y_ = (y113 ++ l0) := ⟨_, rfl⟩
    replace H : (some y116) = some r := by first | (rw [hy116]; with_reducible exact H) | (have H2_ := (Option.bind_some _ _).symm.trans H; rw [hy116]; with_reducible exact H2_) | (have H2_ := (Option.bind_some _ _).symm.trans H; with_reducible exact H2_) | with_reducible exact H | (rw [hy116]; exact H) | exact H
    have Ny116 := Aside0.mk hy116
    clear hy116
    obtain rfl := Option.some.inj H
    go_enter Try.func50, Try.ntmps50
    go_wp2_with (first | ((with_reducible refine gate_dst (N := 3) rfl ?_); refine Kd.R_lit (Kd.int .i64) _ 3 ?hg (N := 3) ?hd (xs := ([] : List Int)) (inner := []) (ok := fun _ => True) (okp := fun _ => True) ?hr ?hp (fun _ hk => hk) trivial (Below.refl _ _) (Nat.le_refl _) (by simp) ?_; (case hd => rfl); (case hg => rfl); (case hr => first | (go_simp; done) | (go_simp; rfl)); (case hp => exact (Reps.none _ _)); intro v114 w3 ho4 hb hg_ hnew_; clear hg_ hnew_; (first | rw [← Ny113.out] at ho4 | (simp only [Int.reduceToNat] at ho4; rw [← Ny113.out] at ho4)); have n0_ := Aside0.mk (Kd.R_lower ho4 (below_size (by repeat (first | (with_reducible first | exact HB.out | apply below_alloc | apply pw_below_drewN | apply below_drew1) | exact HB.out)))); have n1_ := Aside0.mk (below_step (by repeat (first | (with_reducible first | exact HB.out | apply below_alloc | apply pw_below_drewN | apply below_drew1) | exact HB.out)) hb); clear HB; have HO115 := n0_; have HB := n1_; clear n0_ n1_; clear hb ho4) | ((with_reducible refine gate_builtin (b := .append) (xs := #[.tmp 3, .tmp 4]) rfl ?_); at_builtin; refine Kd.R_append_rows (Kd.int .i64) (w0 := w) w.heap.size rfl (.tmp 3) (.tmp 4) 25 3 (.int .i64 0) 8 rfl Try.underlying25 info3 rfl (by decide) (by omega) v114 y113 l0 _ _ _ (fun _ => True) (fun _ => False) rfl rfl ?aO ?aR (fun _ _ h => h) (fun _ h => h.elim) ?aF ?aB ?aS ?aL ?_; (case aR => repeat (first | exact (Kd.C_below HR0.out HB.out) | (with_reducible refine Kd.C_alloc ?_ _) | (with_reducible refine Kd.C_drewN ?_ _) | (with_reducible refine Kd.C_drew ?_))); (case aB => exact (by repeat (first | (with_reducible first | exact HB.out | apply below_alloc | apply pw_below_drewN | apply below_drew1) | exact HB.out))); (case aF => exact (fun _ _ => trivial)); (case aO => exact (by (with_reducible repeat (first | apply Kd.R_alloc | apply Kd.R_drewN | apply Kd.R_drew)); exact HO115.out)); (case aS => exact (below_size (by repeat (first | (with_reducible first | exact HB.out | apply below_alloc | apply pw_below_drewN | apply below_drew1) | exact HB.out)))); (case aL => have := LMc2.out; omega); intro v117 w5 ho hb hg hat; rw [← Ny116.out] at ho; have n0_ := Aside0.mk (hb); have n1_ := Aside0.mk (ho); clear HB; clear HO115; have HB := n0_; have HO118 := n1_; clear n0_ n1_; clear ho hb hg hat))
    go_ret
    exact ⟨_, by first | rfl | (simp [errW_none, errW_some] <;> rfl) | (simp [*, errW_none, errW_some] <;> rfl), by (with_reducible repeat (first | apply Kd.R_alloc | apply Kd.R_drewN | apply Kd.R_drew)); exact HO118.out, by repeat (first | (with_reducible first | exact HB.out | apply below_alloc | apply pw_below_drewN | apply below_drew1) | exact HB.out)⟩
  · rw [if_neg c2] at H
    exact absurd H (by simp)


end Go.Proofs.Ytmhcgihkijiecaa.Fn
namespace Go.Proofs.Ytmhcgihkijiecaa.Fn
open Go.RowKit Go.Proofs.YtmhcgihkijiecaaW.PrintWords Go.Proofs.YtmhcgihkijiecaaW.PrintLast Go.Proofs.YtmhcgihkijiecaaW.PrintMore
attribute [local go_sem] max2_int min2_int max_two min_two max_three min_three max_four min_four   -- for this text's walks alone
set_option linter.unusedVariables false
set_option linter.unusedSimpArgs false

/-! ### spec_seLook_look: function 77 (given) -/
/-! ### the reference's search -/
/-- The first place that holds 0 and is not the hole. -/
def seAtFrom (hole : Int) : List Int → Nat → Nat
  | [], i => i
  | x :: l, i => if x = 0 ∧ (i : Int) ≠ hole then i else seAtFrom hole l (i + 1)
def seAt (hole : Int) (row : List Int) : Nat := seAtFrom hole row 0
theorem seAtFrom_is (hole : Int) : ∀ (l : List Int) (i a : Nat), a ≤ l.length → (∀ j : Nat, j < a → rd l j ≠ 0 ∨ ((i + j : Nat) : Int) = hole) → (a < l.length → rd l a = 0 ∧ ((i + a : Nat) : Int) ≠ hole) → seAtFrom hole l i = i + a
  | [], i, a, h, _, _ => by
    simp at h
    simp [seAtFrom, h]
  | x :: l, i, 0, _, _, h => by
    have := h (by simp)
    simp [rd] at this
    simp [seAtFrom, this]
  | x :: l, i, a + 1, h, h1, h2 => by
    have hx := h1 0 (by omega)
    simp [rd] at hx
    have hn : ¬ (x = 0 ∧ (i : Int) ≠ hole) := fun e => by
      rcases hx with hx | hx
      · exact hx e.1
      · exact e.2 hx
    have ih := seAtFrom_is hole l (i + 1) a (by simpa using h) (fun j hj => by
      have := h1 (j + 1) (by omega)
      rw [show i + (j + 1) = i + 1 + j by omega] at this
      simpa [rd] using this) (fun ha => by
      have := h2 (by simpa using ha)
      rw [show i + (a + 1) = i + 1 + a by omega] at this
      simpa [rd] using this)
    rw [seAtFrom, if_neg hn, ih]
    omega
theorem seAt_is {hole : Int} {l : List Int} {a : Nat} (h : a ≤ l.length) (h1 : ∀ j : Nat, j < a → rd l j ≠ 0 ∨ (j : Int) = hole) (h2 : a < l.length → rd l a = 0 ∧ (a : Int) ≠ hole) : seAt hole l = a := by
  have := seAtFrom_is hole l 0 a h (fun j hj => by simpa using h1 j hj) (fun ha => by simpa using h2 ha)
  simpa [seAt] using this
abbrev sePassed (hole : Int) (row : List Int) (used : Nat) (n t : Int) : Prop := used.testBit n.toNat = true ∨ (row.length : Int) ≤ t ∨ t = hole ∨ rd row t ≠ 0
abbrev SeSt := Nat × List (List Int)
def seLoop (rec : SeSt → List Int → Nat → Option SeSt) (hole shift : Int) (row : List Int) (used a : Nat) : Nat → Int → SeSt → Option SeSt
  | 0, _, s => some s
  | m + 1, n, s => if sePassed hole row used n ((a : Int) + n + shift) then seLoop rec hole shift row used a m (n + 1) s
    else (rec s ((row.set a n).set ((a : Int) + n + shift).toNat n) (used ||| 2 ^ n.toNat)).bind fun s' => seLoop rec hole shift row used a m (n + 1) s'
def seF (from_ to_ shift hole most : Int) : Nat → SeSt → List Int → Nat → Option SeSt
  | 0, _, _, _ => none
  | k + 1, s, row, used => if seAt hole row = row.length then (if s.1 < 1000000000000 ∧ s.2.length < 5864062014805 then some (s.1 + 1, if (s.2.length : Int) < most then s.2 ++ [row] else s.2) else none) else seLoop (seF from_ to_ shift hole most k) hole shift row used (seAt hole row) (to_ + 1 - from_).toNat from_ s
theorem seLoop_pass {rec : SeSt → List Int → Nat → Option SeSt} {hole shift n t : Int} {row : List Int} {used a q : Nat} {s : SeSt} (ht : (a : Int) + n + shift = t) (h : sePassed hole row used n t) : seLoop rec hole shift row used a (q + 1) n s = seLoop rec hole shift row used a q (n + 1) s := by
  subst ht
  exact if_pos h
theorem seLoop_put {rec : SeSt → List Int → Nat → Option SeSt} {hole shift n t : Int} {row : List Int} {used a q : Nat} {s : SeSt} (ht : (a : Int) + n + shift = t) (h : ¬ sePassed hole row used n t) : seLoop rec hole shift row used a (q + 1) n s = (rec s ((row.set a n).set t.toNat n) (used ||| 2 ^ n.toNat)).bind fun s' => seLoop rec hole shift row used a q (n + 1) s' := by
  subst ht
  exact if_neg h
theorem se_bit_int (u n : Nat) : ((u : Int) / 2 ^ n).tmod 2 = if u.testBit n = true then 1 else 0 := by
  have e : ((u : Int) / 2 ^ n) = ((u / 2 ^ n : Nat) : Int) := by simp
  have e2 : (2 : Int) = ((2 : Nat) : Int) := rfl
  rw [e, e2, ← Int.ofNat_tmod, Nat.testBit_eq_decide_div_mod_eq]
  have := Nat.mod_two_eq_zero_or_one (u / 2 ^ n)
  rcases this with h | h <;> simp [h]
theorem se_or_bit {u m : Nat} (hu : u < 2 ^ 60) (hm : m < 60) : bits BinOp.or IntKind.i64 (u : Int) (wrap64 (2 ^ m)) = ((u ||| 2 ^ m : Nat) : Int) := by
  have hp : 2 ^ m < 2 ^ 60 := Nat.pow_lt_pow_right (by decide) hm
  have e : wrap64 ((2 : Int) ^ m) = ((2 ^ m : Nat) : Int) := by
    have h2 : (2 : Int) ^ m = ((2 ^ m : Nat) : Int) := by simp
    rw [h2]
    generalize 2 ^ m = q at hp
    exact wrap_in (by omega) (by omega)
  rw [e]
  exact (bits_nat .i64 60 (by decide) (fun n h0 h1 => by rw [IntKind.wrap_i64]; omega) u (2 ^ m) hu hp).2
theorem nat_or_pow_clear (u m : Nat) (h : u.testBit m = false) (hu : u < 2 ^ 60) : ((BitVec.ofNat 64 (u ||| 2 ^ m)) &&& ~~~ (BitVec.ofNat 64 (2 ^ m))).toNat = u := by
  apply Nat.eq_of_testBit_eq
  intro i
  have h64 : ∀ i, 60 ≤ i → u.testBit i = false := fun i hi => Nat.testBit_lt_two_pow (Nat.lt_of_lt_of_le hu (Nat.pow_le_pow_right (by decide) hi))
  rw [BitVec.testBit_toNat]
  by_cases hi : i < 64
  · simp only [BitVec.getLsbD_and, BitVec.getLsbD_not, BitVec.getLsbD_ofNat, hi, decide_true, Bool.true_and, Nat.testBit_or, Nat.testBit_two_pow]
    by_cases e : m = i
    · subst e; simp [h]
    · simp [e]
  · rw [BitVec.getLsbD_of_ge _ _ (by omega), h64 i (by omega)]
theorem andNot_bit {u m : Nat} (hu : u < 2 ^ 60) (hm : m < 60) (h : u.testBit m = false) : bits BinOp.andNot IntKind.i64 ((u ||| 2 ^ m : Nat) : Int) (wrap64 (2 ^ m)) = (u : Int) := by
  have hp : 2 ^ m < 2 ^ 60 := Nat.pow_lt_pow_right (by decide) hm
  have e : wrap64 ((2 : Int) ^ m) = ((2 ^ m : Nat) : Int) := by
    have h2 : (2 : Int) ^ m = ((2 ^ m : Nat) : Int) := by simp
    rw [h2]
    generalize 2 ^ m = q at hp
    exact wrap_in (by omega) (by omega)
  rw [e]
  simp only [bits, BitVec.ofInt_natCast]
  have h1 := nat_or_pow_clear u m h hu
  rw [show IntKind.i64.bits = 64 from rfl, h1, i64_w]
  exact wrap_in (by omega) (by omega)
theorem se_cells_C {w : World} {ad : Addr} {l : List Int} (h : ∀ j, j < l.length → w.cell? (ad.add j) = some (.int .i64 (rd l j))) (hl : l.length ≤ 1000) : Kd.C (Kd.int .i64) w (some ad) l.length l := by
  refine Kd.C_of_reads (d := (0 : Int)) (h1 := fun _ => rfl) ⟨rfl, by omega, fun _ => ⟨_, rfl, fun j hj => ?_⟩⟩
  have := h j hj
  simpa only [rd, Int.toNat_natCast] using this
/-- The state of the search: the block at gS holds its fields, the block at gr the row; the rows that were kept lie apart from both. -/
structure SeI (base gS gr : Nat) (from_ to_ shift hole most : Int) (row : List Int) (used : Nat) (s : SeSt) (w : World) : Prop where
  out : ∃ v, w.heap[gS]? = some (.cells #[.slice (some ⟨gr, 0, none⟩) row.length row.length, .int .i64 from_, .int .i64 to_, .int .i64 shift, .int .i64 hole, .int .i64 (used : Int), .int .i64 most, .int .i64 (s.1 : Int), v] 50 (0, 0)) ∧ Kd.S (Kd.slice 3 (Kd.int .i64)) 25 w base (fun k => k ≠ gS ∧ k ≠ gr) v s.2
  row : IB w gr row
section
variable {base gS gr : Nat} {from_ to_ shift hole most : Int} {row : List Int} {used : Nat} {s : SeSt} {w w' : World}
theorem SeI.putRow (h : SeI base gS gr from_ to_ shift hole most row used s w) (hne : gS ≠ gr) (j : Nat) (v : Int) (hw : w' = w.setCell ⟨gr, j, none⟩ (.int .i64 v)) : SeI base gS gr from_ to_ shift hole most (row.set j v) used s w' := by
  obtain ⟨⟨u, h1, h2⟩, h3⟩ := h
  refine ⟨⟨u, ?_, ?_⟩, h3.set j v hw⟩
  · rw [List.length_set, hw]
    exact (Below.heap_setCell _ _ _ _ hne).trans h1
  · refine Kd.S_step h2 (fun k ho hl => ?_)
    rw [hw]
    exact Below.heap_setCell _ _ _ _ ho.2
theorem SeI.putUsed (h : SeI base gS gr from_ to_ shift hole most row used s w) (hne : gS ≠ gr) (u' : Nat) (hw : w' = w.setCell ⟨gS, 5, none⟩ (.int .i64 (u' : Int))) : SeI base gS gr from_ to_ shift hole most row u' s w' := by
  obtain ⟨⟨u, h1, h2⟩, h3⟩ := h
  refine ⟨⟨u, ?_, ?_⟩, h3.far hne.symm 5 _ hw⟩
  · rw [hw]
    exact blk_put h1 5 _ rfl
  · refine Kd.S_step h2 (fun k ho hl => ?_)
    rw [hw]
    exact Below.heap_setCell _ _ _ _ ho.1
theorem SeI.putCount (h : SeI base gS gr from_ to_ shift hole most row used s w) (hne : gS ≠ gr) (hw : w' = w.setCell ⟨gS, 7, none⟩ (.int .i64 ((s.1 + 1 : Nat) : Int))) : SeI base gS gr from_ to_ shift hole most row used (s.1 + 1, s.2) w' := by
  obtain ⟨⟨u, h1, h2⟩, h3⟩ := h
  refine ⟨⟨u, ?_, ?_⟩, h3.far hne.symm 7 _ hw⟩
  · rw [hw]
    exact blk_put h1 7 _ rfl
  · refine Kd.S_step h2 (fun k ho hl => ?_)
    rw [hw]
    exact Below.heap_setCell _ _ _ _ ho.1
theorem SeI.same (h : SeI base gS gr from_ to_ shift hole most row used s w) (hw : w'.heap = w.heap) : SeI base gS gr from_ to_ shift hole most row used s w' := by
  obtain ⟨⟨u, h1, h2⟩, h3⟩ := h
  refine ⟨⟨u, by rw [hw]; exact h1, Kd.S_step h2 (fun k ho hl => by rw [hw])⟩, ?_⟩
  unfold IB
  rw [hw]
  exact h3
theorem SeI.cast {row' : List Int} (h : SeI base gS gr from_ to_ shift hole most row used s w) (e : row = row') : SeI base gS gr from_ to_ shift hole most row' used s w := by
  subst e
  exact h
end
theorem se_set_back {row : List Int} {a t : Nat} {n : Int} (ha : rd row a = 0) (ht : rd row t = 0) : (((row.set a n).set t n).set a 0).set t 0 = row := by
  apply List.ext_getElem?
  intro j
  simp only [List.getElem?_set, List.length_set]
  by_cases e1 : t = j
  · subst e1
    by_cases hl : t < row.length
    · have : row[t]? = some (rd row t) := by unfold rd; rw [Int.toNat_natCast, List.getD_eq_getElem?_getD, List.getElem?_eq_getElem hl]; rfl
      rw [this, ht]
      simp [hl]
    · simp [hl, List.getElem?_eq_none (Nat.le_of_not_lt hl)]
  · simp only [e1, if_false]
    by_cases e2 : a = j
    · subst e2
      by_cases hl : a < row.length
      · have : row[a]? = some (rd row a) := by unfold rd; rw [Int.toNat_natCast, List.getD_eq_getElem?_getD, List.getElem?_eq_getElem hl]; rfl
        rw [this, ha]
        simp [hl]
      · simp [hl, List.getElem?_eq_none (Nat.le_of_not_lt hl)]
    · simp [e2]
set_option maxHeartbeats 16000000 in
set_option maxRecDepth 100000 in
theorem look_call {base gS gr : Nat} {from_ to_ shift hole most : Int} (hfr : 1 ≤ from_ ∧ from_ ≤ 20) (hto : 0 ≤ to_ ∧ to_ ≤ 40) (hs : 0 ≤ shift ∧ shift ≤ 1) (hne : gS ≠ gr) (hbS : base ≤ gS) (hbr : base ≤ gr) :
    ∀ (k : Nat) (s s' : SeSt) (row : List Int) (used : Nat) (w : World), base ≤ w.heap.size → 0 < row.length → row.length ≤ 100 → used < 2 ^ 60 → SeI base gS gr from_ to_ shift hole most row used s w → seF from_ to_ shift hole most k s row used = some s' →
    Calls Try.prog 77 #[.pointer (some ⟨gS, 0, none⟩)] w fun e w' => e = .returned (.tuple #[]) ∧ SeI base gS gr from_ to_ shift hole most row used s' w' ∧ Below base w w' := by
  have HFR := Aside0.mk hfr
  have HTO := Aside0.mk hto
  have HS := Aside0.mk hs
  have HNE := Aside0.mk hne
  have HBS := Aside0.mk hbS
  have HBR := Aside0.mk hbr
  clear hfr hto hs hne hbS hbr
  intro k
  induction k with
  | zero =>
    intro s s' row used w _ _ _ _ _ h
    cases h
  | succ k ih =>
    intro s s' row used w hb hr0 hr1 hus hI h
    have IH := Aside0.mk ih
    have HB0 := Aside0.mk hb
    have HR0 := Aside0.mk hr0
    have HR1 := Aside0.mk hr1
    have HUS := Aside0.mk hus
    have HI := Aside0.mk hI
    have H := Aside0.mk h
    have HOWN := Aside0.mk (show spec_l1Own.f row = some row from by
      unfold spec_l1Own.f
      simp only [Option.bind_some]
      rw [if_pos (by simp; omega)]
      simp)
    clear ih hb hr0 hus hI h
    obtain ⟨v, ho, hS⟩ := HI.out.out
    obtain ⟨A8, c8, e8⟩ := Kd.S_slice hS
    subst e8
    have HO := Aside0.mk ho
    have HS8 := Aside0.mk hS
    have hs0 := blk_cell ho 0
    have hs4 := blk_cell ho 4
    have hs7 := blk_cell ho 7
    have hs8 := blk_cell ho 8
    have hs6 := blk_cell ho 6
    have hs1 := blk_cell ho 1
    simp only [List.getElem?_toArray, List.getElem?_cons_zero, List.getElem?_cons_succ] at hs0 hs1 hs4 hs6 hs7 hs8
    clear ho hS
    go_enter Try.func77, Try.ntmps77
    go_wp2
    go_loopw [2] (fun v2 wr => ∃ i : Nat, i ≤ row.length ∧ v2 = .int .i64 i ∧ wr = w ∧ Aside0 (∀ j : Nat, j < i → rd row j ≠ 0 ∨ (j : Int) = hole)) (fun v _ => row.length - (intOf v).toNat)
    case atStart => exact ⟨0, Nat.zero_le _, rfl, rfl, ⟨fun j hj => by omega⟩⟩
    case round =>
      obtain ⟨i, hi, rfl, hwr, HZ⟩ := hrel
      have hw2 : w = wr := hwr.symm
      subst hw2
      clear hwr
      by_cases hlt : i < row.length
      · have hci := HI.out.row.cell i hlt
        obtain ⟨y, hy⟩ : ∃ y, rd row i = y := ⟨_, rfl⟩
        rw [hy] at hci
        have HY := Aside0.mk hy
        have HLI := Aside0.mk hlt
        clear hy
        by_cases hz : y = 0
        · have bz : (y != 0) = false := bne_eq_false_iff_eq.mpr hz
          by_cases hh : (i : Int) = hole
          · have bh : ((i : Int) == hole) = true := beq_iff_eq.mpr hh
            have HH := Aside0.mk hh
            clear hz hh
            go_wp2
            go_roundw
            case rel => exact ⟨i + 1, HLI.out, by go_num, by first | trivial | rfl, ⟨fun j hj => by
              by_cases e : j = i
              · rw [e]; exact .inr HH.out
              · exact HZ.out j (by omega)⟩⟩
            case measure => simp [intOf]; have := HLI.out; omega
          · have bh : ((i : Int) == hole) = false := beq_eq_false_iff_ne.mpr hh
            have be : ((i : Int) == (row.length : Int)) = false := beq_eq_false_iff_ne.mpr (by omega)
            have HA := Aside0.mk (seAt_is hi HZ.out (fun _ => ⟨by rw [HY.out]; exact hz, hh⟩))
            have HZ0 := Aside0.mk (show rd row i = 0 by rw [HY.out]; exact hz)
            clear hz hh
            go_wp2
            obtain ⟨M, hM⟩ : ∃ M, (to_ + 1 - from_).toNat = M := ⟨_, rfl⟩
            have h2 : seLoop (seF from_ to_ shift hole most k) hole shift row used i M from_ s = some s' := by
              have := H.out
              rw [seF, HA.out, if_neg (by have := HLI.out; omega), hM] at this
              exact this
            have H2 := Aside0.mk h2
            have HMM := Aside0.mk hM
            clear h2 H hs0 hs1 hs4 hs6 hs7 hs8 hci hM
            have hfr := HFR.out
            have hto := HTO.out
            have hs := HS.out
            go_loopw [3] (fun v3 wr => ∃ (m : Nat) (s1 : SeSt), m ≤ M ∧ v3 = .int .i64 (from_ + (m : Int)) ∧ Aside0 (SeI base gS gr from_ to_ shift hole most row used s1 wr) ∧ Aside0 (Below base w wr) ∧ Aside0 (seLoop (seF from_ to_ shift hole most k) hole shift row used i (M - m) (from_ + (m : Int)) s1 = some s')) (fun v _ => (from_ + (M : Int) - intOf v).toNat)
            case atStart => exact ⟨0, s, Nat.zero_le _, by simp, HI, ⟨Below.refl _ _⟩, ⟨by simpa using H2.out⟩⟩
            case round =>
              obtain ⟨m, s1, hm, rfl, HI2, HB2, HH⟩ := hrel
              obtain ⟨v2, ho2, hS2⟩ := HI2.out.out
              have hs0 := blk_cell ho2 0
              have hs2 := blk_cell ho2 2
              have hs3 := blk_cell ho2 3
              have hs4 := blk_cell ho2 4
              have hs5 := blk_cell ho2 5
              have hf5 := blk_frozen ho2 5
              simp only [List.getElem?_toArray, List.getElem?_cons_zero, List.getElem?_cons_succ] at hs0 hs2 hs3 hs4 hs5
              clear ho2 hS2
              by_cases hlt : m < M
              · obtain ⟨q, hmq⟩ : ∃ q, M - m = q + 1 := ⟨M - m - 1, by omega⟩
                have hmq2 : M - (m + 1) = q := by omega
                have h3 := HH.out
                rw [hmq] at h3
                have hMM := HMM.out
                have hn1 : 1 ≤ from_ + (m : Int) ∧ from_ + (m : Int) ≤ 59 := by omega
                have hb0 : decide (from_ + (m : Int) ≤ to_) = true := decide_eq_true (by omega)
                have hnn : from_ + (m : Int) + 1 = from_ + ((m + 1 : Nat) : Int) := by omega
                obtain ⟨n, hn⟩ : ∃ n, from_ + (m : Int) = n := ⟨_, rfl⟩
                rw [hn] at h3 hb0 hn1 hnn
                have HH3 := Aside0.mk h3
                have HMQ2 := Aside0.mk hmq2
                have HLTM := Aside0.mk hlt
                have HNN := Aside0.mk hnn
                have HN := Aside0.mk hn
                have HN1 := Aside0.mk hn1
                rw [hn]
                clear HH h3 hmq hmq2 hlt hm hn hnn hMM
                obtain ⟨t, ht⟩ : ∃ t : Int, (i : Int) + n + shift = t := ⟨_, rfl⟩
                have HTT := Aside0.mk ht
                clear ht
                go_upto_region 11 with (fail)
                rw [HTT.out]
                go_cut [124] (fun v124 wc => ∃ x : Bool, v124 = .bool x ∧ wc = wr ∧ Aside0 (x = true ↔ sePassed hole row used n t))
                case first =>
                  by_cases c1 : used.testBit n.toNat = true
                  · have b1 : (((used : Int) / 2 ^ n.toNat).tmod 2 == 1) = true := by rw [se_bit_int, if_pos c1]; rfl
                    have HPS := Aside0.mk (show sePassed hole row used n t from .inl c1)
                    clear c1
                    go_wp2
                    go_meet
                    case rel => exact ⟨true, rfl, by first | trivial | rfl, ⟨⟨fun _ => HPS.out, fun _ => rfl⟩⟩⟩
                  have b1 : (((used : Int) / 2 ^ n.toNat).tmod 2 == 1) = false := by rw [se_bit_int, if_neg c1]; rfl
                  have C1 := Aside0.mk c1
                  clear c1
                  by_cases c2 : (row.length : Int) ≤ t
                  · have b2 : decide ((row.length : Int) ≤ t) = true := decide_eq_true c2
                    have HPS := Aside0.mk (show sePassed hole row used n t from .inr (.inl c2))
                    clear c2
                    go_wp2
                    go_meet
                    case rel => exact ⟨true, rfl, by first | trivial | rfl, ⟨⟨fun _ => HPS.out, fun _ => rfl⟩⟩⟩
                  have b2 : decide ((row.length : Int) ≤ t) = false := decide_eq_false c2
                  have C2 := Aside0.mk c2
                  by_cases c4 : t = hole
                  · have b4 : (t == hole) = true := beq_iff_eq.mpr c4
                    have HPS := Aside0.mk (show sePassed hole row used n t from .inr (.inr (.inl c4)))
                    clear c2 c4
                    go_wp2
                    go_meet
                    case rel => exact ⟨true, rfl, by first | trivial | rfl, ⟨⟨fun _ => HPS.out, fun _ => rfl⟩⟩⟩
                  have b4 : (t == hole) = false := beq_eq_false_iff_ne.mpr c4
                  have C4 := Aside0.mk c4
                  have ht0 : 0 ≤ t := by have := HTT.out; omega
                  have HT0 := Aside0.mk ht0
                  have hcr := HI2.out.row.cell t.toNat (by omega)
                  rw [Int.toNat_of_nonneg ht0] at hcr
                  have p1 : (0 ≤ t) = True := eq_true ht0
                  have q1 : (t < (row.length : Int)) = True := eq_true (by omega)
                  clear c2 c4 ht0
                  obtain ⟨u, hu1⟩ : ∃ u, rd row t = u := ⟨_, rfl⟩
                  rw [hu1] at hcr
                  have HU := Aside0.mk hu1
                  clear hu1
                  by_cases c3 : u = 0
                  · have b3 : (u != 0) = false := bne_eq_false_iff_eq.mpr c3
                    have HPS := Aside0.mk (show ¬ sePassed hole row used n t from fun h => by
                      rcases h with h | h | h | h
                      · exact C1.out h
                      · exact C2.out h
                      · exact C4.out h
                      · exact h (HU.out.trans c3))
                    clear c3
                    go_wp2
                    go_meet
                    case rel => exact ⟨false, rfl, by first | trivial | rfl, ⟨⟨fun h => by simp at h, fun h => absurd h HPS.out⟩⟩⟩
                  · have b3 : (u != 0) = true := bne_iff_ne.mpr c3
                    have HPS := Aside0.mk (show sePassed hole row used n t from .inr (.inr (.inr (by rw [HU.out]; exact c3))))
                    clear c3
                    go_wp2
                    go_meet
                    case rel => exact ⟨true, rfl, by first | trivial | rfl, ⟨⟨fun _ => HPS.out, fun _ => rfl⟩⟩⟩
                case rest =>
                  obtain ⟨x, rfl, hwc, HPX⟩ := hcut
                  have hwc2 : wr = wc := hwc.symm
                  subst hwc2
                  clear hwc
                  have HREL := Aside0.mk (show ∀ (x1 : SeSt) (w' : World), SeI base gS gr from_ to_ shift hole most row used x1 w' → Below base w w' → seLoop (seF from_ to_ shift hole most k) hole shift row used i q (n + 1) x1 = some s' → ∃ (m' : Nat) (s1 : SeSt), m' ≤ M ∧ Value.int .i64 (n + 1) = .int .i64 (from_ + (m' : Int)) ∧ Aside0 (SeI base gS gr from_ to_ shift hole most row used s1 w') ∧ Aside0 (Below base w w') ∧ Aside0 (seLoop (seF from_ to_ shift hole most k) hole shift row used i (M - m') (from_ + (m' : Int)) s1 = some s') from fun x1 w' h1 h2 h4 => ⟨m + 1, x1, HLTM.out, by rw [HNN.out], ⟨h1⟩, ⟨h2⟩, ⟨by rw [HMQ2.out, ← HNN.out]; exact h4⟩⟩)
                  cases x with
                  | true =>
                    have h4 := (seLoop_pass (rec := seF from_ to_ shift hole most k) (s := s1) (q := q) HTT.out (HPX.out.1 rfl)).symm.trans HH3.out
                    have HH4 := Aside0.mk h4
                    clear h4
                    go_wp2
                    go_roundw
                    case rel => exact HREL.out s1 wr HI2.out HB2.out HH4.out
                    case measure => simp only [intOf]; have := HN.out; have := HLTM.out; omega
                  | false =>
                    have hnp : ¬ sePassed hole row used n t := fun h => by simpa using HPX.out.2 h
                    have htl : t < (row.length : Int) := by
                      rcases Int.lt_or_le t row.length with h | h
                      · exact h
                      · exact absurd (Or.inr (Or.inl h)) hnp
                    have ht0 : 0 ≤ t := by have := HTT.out; omega
                    have hrt : rd row t = 0 := Classical.byContradiction fun h => hnp (.inr (.inr (.inr h)))
                    have hbit : used.testBit n.toNat = false := Bool.eq_false_iff.mpr fun h => hnp (.inl h)
                    have h4 := (seLoop_put (rec := seF from_ to_ shift hole most k) (s := s1) (q := q) HTT.out hnp).symm.trans HH3.out
                    obtain ⟨s2, hrec, h5⟩ := Option.bind_eq_some_iff.1 h4
                    have HREC := Aside0.mk hrec
                    have HH5 := Aside0.mk h5
                    have HRT := Aside0.mk hrt
                    have HBIT := Aside0.mk hbit
                    have HTL := Aside0.mk htl
                    have HT0 := Aside0.mk ht0
                    have p1 : (0 ≤ t) = True := eq_true ht0
                    have q1 : (t < (row.length : Int)) = True := eq_true htl
                    have p2 : (0 ≤ (i : Int)) = True := eq_true (by omega)
                    have q2 : ((i : Int) < (row.length : Int)) = True := eq_true (by have := HLI.out; omega)
                    have HNT := Aside0.mk (show n.toNat < 60 by omega)
                    clear hnp h4 hrec h5 hrt hbit htl ht0 hs0 hs2 hs3 hs4 hf5
                    go_upto_region 12 with (fail)
                    refine start_ (n := 10) (S := fun w' => w'.cell? ⟨gS, 5, none⟩ = some (.int .i64 (used : Int))) (ds := [9]) #[false, false, false, false, false, false, false, false, false, false] (by kernel_rfl) rfl rfl (show wr.drew.cell? ⟨gS, 5, none⟩ = _ from hs5) (fun hHeld => ?_)
                    have HBD := Aside0.mk (below_drew1 (Below.refl base wr))
                    have HID := Aside0.mk (HI2.out.same (show wr.drew.heap = wr.heap from rfl))
                    obtain ⟨vd, hod, _⟩ := HID.out.out
                    have hfd := blk_frozen hod 5
                    clear hod
                    generalize wr.drew = wd at HBD HID hfd hHeld ⊢
                    refine pure_ (i := 0) (N := some 125) (v := ?_) (a' := ?_) #[true, false, false, false, false, false, false, false, false, false] rfl rfl (by kernel_rfl) (fun _ _ _ h => h) (Or.inl ⟨by rfl, ?_⟩) ?_ ?_
                    rotate_left
                    · intro w'
                      go_simp
                      with_reducible rfl
                    rotate_left
                    · simp only [Act.put, List.setIfInBounds_toArray, List.set_cons_zero, List.set_cons_succ, i64_w, i32_w]
                      rfl
                    refine pure_ (i := 1) (N := some 126) (v := ?_) (a' := ?_) #[true, true, false, false, false, false, false, false, false, false] rfl rfl (by kernel_rfl) (fun _ _ _ h => h) (Or.inl ⟨by rfl, ?_⟩) ?_ ?_
                    rotate_left
                    · intro w'
                      go_simp
                      with_reducible rfl
                    rotate_left
                    · simp only [Act.put, List.setIfInBounds_toArray, List.set_cons_zero, List.set_cons_succ, i64_w, i32_w]
                      rfl
                    refine pure_ (i := 2) (N := some 127) (v := ?_) (a' := ?_) #[true, true, true, false, false, false, false, false, false, false] rfl rfl (by kernel_rfl) (fun _ _ _ h => h) (Or.inl ⟨by rfl, ?_⟩) ?_ ?_
                    rotate_left
                    · intro w'
                      go_simp
                      with_reducible rfl
                    rotate_left
                    · simp only [Act.put, List.setIfInBounds_toArray, List.set_cons_zero, List.set_cons_succ, i64_w, i32_w]
                      rfl
                    refine take_ (i := 3) (N := some 128) (v := ?_) (a' := ?_) #[true, true, true, true, false, false, false, false, false, false] rfl rfl (by kernel_rfl) (fun _ _ _ h => h) (Or.inl ⟨by rfl, ?_⟩) hHeld ?_ ?_
                    rotate_left
                    · rintro w' s0
                      go_simp
                      with_reducible rfl
                    rotate_left
                    · simp only [Act.put, List.setIfInBounds_toArray, List.set_cons_zero, List.set_cons_succ, i64_w, i32_w]
                      rfl
                    refine pure_ (i := 4) (N := some 129) (v := ?_) (a' := ?_) #[true, true, true, true, true, false, false, false, false, false] rfl rfl (by kernel_rfl) (fun _ _ _ h => h) (Or.inl ⟨by rfl, ?_⟩) ?_ ?_
                    rotate_left
                    · intro w'
                      go_simp
                      with_reducible rfl
                    rotate_left
                    · simp only [Act.put, List.setIfInBounds_toArray, List.set_cons_zero, List.set_cons_succ, i64_w, i32_w]
                      rfl
                    refine pure_ (i := 5) (N := some 130) (v := ?_) (a' := ?_) #[true, true, true, true, true, true, false, false, false, false] rfl rfl (by kernel_rfl) (fun _ _ _ h => h) (Or.inl ⟨by rfl, ?_⟩) ?_ ?_
                    rotate_left
                    · intro w'
                      go_simp
                      with_reducible rfl
                    rotate_left
                    · simp only [Act.put, List.setIfInBounds_toArray, List.set_cons_zero, List.set_cons_succ, i64_w, i32_w]
                      rfl
                    refine pure_ (i := 6) (N := some 131) (v := ?_) (a' := ?_) #[true, true, true, true, true, true, true, false, false, false] rfl rfl (by kernel_rfl) (fun _ _ _ h => h) (Or.inl ⟨by rfl, ?_⟩) ?_ ?_
                    rotate_left
                    · intro w'
                      go_simp
                      with_reducible rfl
                    rotate_left
                    · simp only [Act.put, List.setIfInBounds_toArray, List.set_cons_zero, List.set_cons_succ, i64_w, i32_w]
                      rfl
                    refine pure_ (i := 7) (N := some 132) (v := ?_) (a' := ?_) #[true, true, true, true, true, true, true, true, false, false] rfl rfl (by kernel_rfl) (fun _ _ _ h => h) (Or.inl ⟨by rfl, ?_⟩) ?_ ?_
                    rotate_left
                    · intro w'
                      go_simp
                      with_reducible rfl
                    rotate_left
                    · simp only [Act.put, List.setIfInBounds_toArray, List.set_cons_zero, List.set_cons_succ, i64_w, i32_w]
                      rfl
                    refine pure_ (i := 8) (N := some 133) (v := ?_) (a' := ?_) #[true, true, true, true, true, true, true, true, true, false] rfl rfl (by kernel_rfl) (fun _ _ _ h => h) (Or.inl ⟨by rfl, ?_⟩) ?_ ?_
                    rotate_left
                    · intro w'
                      go_simp
                      with_reducible rfl
                    rotate_left
                    · simp only [Act.put, List.setIfInBounds_toArray, List.set_cons_zero, List.set_cons_succ, i64_w, i32_w]
                      rfl
                    rw [se_or_bit HUS.out HNT.out]
                    have hcd := hHeld
                    refine last_ (i := 9) (N := none) #[true, true, true, true, true, true, true, true, true, true] rfl rfl (by kernel_rfl) (by decide) (fun K hK => ?_)
                    refine skip_ (w1 := wd.setCell ⟨gS, 5, none⟩ (.int .i64 ((used ||| 2 ^ n.toNat : Nat) : Int))) (by rfl) rfl ?_ ?_
                    · first | (go_simp; done) | (go_simp; rfl)
                    refine hK.out _ _ ?_
                    clear hK K
                    refine done_ (by kernel_rfl) ?_
                    have HI3 := Aside0.mk (HID.out.putUsed HNE.out (used ||| 2 ^ n.toNat) (w' := wd.setCell ⟨gS, 5, none⟩ (.int .i64 ((used ||| 2 ^ n.toNat : Nat) : Int))) rfl)
                    have HB3 := Aside0.mk (HBD.out.setCell (show base ≤ (⟨gS, 5, none⟩ : Addr).block from HBS.out) (.int .i64 ((used ||| 2 ^ n.toNat : Nat) : Int)))
                    clear hHeld hcd hfd hs5 HID HBD
                    generalize wd.setCell ⟨gS, 5, none⟩ (.int .i64 ((used ||| 2 ^ n.toNat : Nat) : Int)) = w3 at HI3 HB3 ⊢
                    have hcell : ∀ (w9 : World) (row9 : List Int) (u9 : Nat) (s9 : SeSt), row9.length = row.length → SeI base gS gr from_ to_ shift hole most row9 u9 s9 w9 → w9.cell? ⟨gS, 0, none⟩ = some (.slice (some ⟨gr, 0, none⟩) row.length row.length) := fun w9 row9 u9 s9 hl h9 => by
                      obtain ⟨v9, ho9, _⟩ := h9.out
                      have := blk_cell ho9 0
                      rw [hl] at this
                      exact this
                    have HCELL := Aside0.mk hcell
                    clear hcell
                    have hs0 := HCELL.out w3 row _ s1 rfl HI3.out
                    have hcx := HI3.out.row.cell i HLI.out
                    have hfx := blk_frozen HI3.out.row i
                    go_upto_region 18 with (first | ((with_reducible refine gate_store (t := 3) (p := 140) rfl ?_); refine store_event (t := 3) (p := 140) (v := ?vo140) (w1 := (w3.setCell ⟨gr, i, none⟩ (.int .i64 n))) ?hg ?ho ?hn ?hr ?_; (case ho => rfl); (case hg => rfl); (case hn => rfl); (case hr => first | (go_simp; done) | (go_simp; rfl)); intro w4 hw_; have HI4 := Aside0.mk (HI3.out.putRow HNE.out i n hw_); have HBw4 := Aside0.mk (show Below base w3 w4 by rw [hw_]; exact (Below.refl base w3).setCell (show base ≤ (⟨gr, i, none⟩ : Addr).block from HBR.out) _); clear hw_; clear hs0 hcx hfx; have hs0 := HCELL.out w4 _ _ s1 (List.length_set ..) HI4.out; have hcx := HI4.out.row.cellI t HT0.out (by rw [List.length_set]; exact HTL.out); have hfx := blk_frozen HI4.out.row t.toNat) | ((with_reducible refine gate_store (t := 3) (p := 147) rfl ?_); refine store_event (t := 3) (p := 147) (v := ?vo147) (w1 := (w4.setCell ⟨gr, t.toNat, none⟩ (.int .i64 n))) ?hg ?ho ?hn ?hr ?_; (case ho => rfl); (case hg => rfl); (case hn => rfl); (case hr => first | (go_simp; done) | (go_simp; rfl)); intro w5 hw_; have HI5 := Aside0.mk (HI4.out.putRow HNE.out t.toNat n hw_); have HBw5 := Aside0.mk (show Below base w4 w5 by rw [hw_]; exact (Below.refl base w4).setCell (show base ≤ (⟨gr, t.toNat, none⟩ : Addr).block from HBR.out) _); clear hw_; clear hs0 hcx hfx) | ((with_reducible refine gate_callee (f := 77) rfl ?_); have HCALL := Aside0.mk (IH.out s1 s2 ((row.set i n).set t.toNat n) (used ||| 2 ^ n.toNat) w5 (by have h1 := HB0.out; have h2 := HB2.out.size; have h3 := HB3.out.size; have h4 := HBw4.out.size; have h5 := HBw5.out.size; omega) (by rw [List.length_set, List.length_set]; exact HR0.out) (by rw [List.length_set, List.length_set]; exact HR1.out) (Nat.or_lt_two_pow HUS.out (Nat.pow_lt_pow_right (by decide) HNT.out)) HI5.out HREC.out); refine goesL_ (some 149) rfl rfl Try.func77 (by kernel_rfl) rfl #[.pointer (some ⟨gS, 0, none⟩)] rfl (by (try simp only [List.map_toArray, List.map_cons, List.map_nil]); first | done | rfl) ?_; refine HCALL.out.mono ?_; rintro e w6 ⟨rfl, hI6, hB6⟩; refine ⟨_, rfl, ?_⟩; have HI6 := Aside0.mk hI6; have HB6 := Aside0.mk hB6; clear hI6 hB6 HCALL; have hs0 := HCELL.out w6 _ _ s2 (by rw [List.length_set, List.length_set]) HI6.out; have hcx := HI6.out.row.cell i (by rw [List.length_set, List.length_set]; exact HLI.out); have hfx := blk_frozen HI6.out.row i) | ((with_reducible refine gate_store (t := 3) (p := 155) rfl ?_); refine store_event (t := 3) (p := 155) (v := ?vo155) (w1 := (w6.setCell ⟨gr, i, none⟩ (.int .i64 0))) ?hg ?ho ?hn ?hr ?_; (case ho => rfl); (case hg => rfl); (case hn => rfl); (case hr => first | (go_simp; done) | (go_simp; rfl)); intro w7 hw_; have HI7 := Aside0.mk (HI6.out.putRow HNE.out i 0 hw_); have HBw7 := Aside0.mk (show Below base w6 w7 by rw [hw_]; exact (Below.refl base w6).setCell (show base ≤ (⟨gr, i, none⟩ : Addr).block from HBR.out) _); clear hw_; clear hs0 hcx hfx; have hs0 := HCELL.out w7 _ _ s2 (by rw [List.length_set, List.length_set, List.length_set]) HI7.out; have hcx := HI7.out.row.cellI t HT0.out (by rw [List.length_set, List.length_set, List.length_set]; exact HTL.out); have hfx := blk_frozen HI7.out.row t.toNat) | ((with_reducible refine gate_store (t := 3) (p := 161) rfl ?_); refine store_event (t := 3) (p := 161) (v := ?vo161) (w1 := (w7.setCell ⟨gr, t.toNat, none⟩ (.int .i64 0))) ?hg ?ho ?hn ?hr ?_; (case ho => rfl); (case hg => rfl); (case hn => rfl); (case hr => first | (go_simp; done) | (go_simp; rfl)); intro w8 hw_; have HI8 := Aside0.mk (HI7.out.putRow HNE.out t.toNat 0 hw_); have HBw8 := Aside0.mk (show Below base w7 w8 by rw [hw_]; exact (Below.refl base w7).setCell (show base ≤ (⟨gr, t.toNat, none⟩ : Addr).block from HBR.out) _); clear hw_; clear hs0 hcx hfx))
                    have HI8' := Aside0.mk (HI8.out.cast (se_set_back HZ0.out (show rd row ((t.toNat : Nat) : Int) = 0 by rw [Int.toNat_of_nonneg HT0.out]; exact HRT.out)))
                    obtain ⟨v8, ho8, _⟩ := HI8'.out.out
                    have hs5 := blk_cell ho8 5
                    simp only [List.getElem?_toArray, List.getElem?_cons_zero, List.getElem?_cons_succ] at hs5
                    clear ho8
                    refine start_ (n := 10) (S := fun w' => w'.cell? ⟨gS, 5, none⟩ = some (.int .i64 ((used ||| 2 ^ n.toNat : Nat) : Int))) (ds := [9]) #[false, false, false, false, false, false, false, false, false, false] (by kernel_rfl) rfl rfl (show w8.drew.cell? ⟨gS, 5, none⟩ = _ from hs5) (fun hHeld => ?_)
                    have HBD := Aside0.mk (below_drew1 (Below.refl base w8))
                    have HID := Aside0.mk (HI8'.out.same (show w8.drew.heap = w8.heap from rfl))
                    obtain ⟨vd, hod, _⟩ := HID.out.out
                    have hfd := blk_frozen hod 5
                    clear hod
                    generalize w8.drew = wd at HBD HID hfd hHeld ⊢
                    refine pure_ (i := 0) (N := some 162) (v := ?_) (a' := ?_) #[true, false, false, false, false, false, false, false, false, false] rfl rfl (by kernel_rfl) (fun _ _ _ h => h) (Or.inl ⟨by rfl, ?_⟩) ?_ ?_
                    rotate_left
                    · intro w'
                      go_simp
                      with_reducible rfl
                    rotate_left
                    · simp only [Act.put, List.setIfInBounds_toArray, List.set_cons_zero, List.set_cons_succ, i64_w, i32_w]
                      rfl
                    refine pure_ (i := 1) (N := some 163) (v := ?_) (a' := ?_) #[true, true, false, false, false, false, false, false, false, false] rfl rfl (by kernel_rfl) (fun _ _ _ h => h) (Or.inl ⟨by rfl, ?_⟩) ?_ ?_
                    rotate_left
                    · intro w'
                      go_simp
                      with_reducible rfl
                    rotate_left
                    · simp only [Act.put, List.setIfInBounds_toArray, List.set_cons_zero, List.set_cons_succ, i64_w, i32_w]
                      rfl
                    refine pure_ (i := 2) (N := some 164) (v := ?_) (a' := ?_) #[true, true, true, false, false, false, false, false, false, false] rfl rfl (by kernel_rfl) (fun _ _ _ h => h) (Or.inl ⟨by rfl, ?_⟩) ?_ ?_
                    rotate_left
                    · intro w'
                      go_simp
                      with_reducible rfl
                    rotate_left
                    · simp only [Act.put, List.setIfInBounds_toArray, List.set_cons_zero, List.set_cons_succ, i64_w, i32_w]
                      rfl
                    refine take_ (i := 3) (N := some 165) (v := ?_) (a' := ?_) #[true, true, true, true, false, false, false, false, false, false] rfl rfl (by kernel_rfl) (fun _ _ _ h => h) (Or.inl ⟨by rfl, ?_⟩) hHeld ?_ ?_
                    rotate_left
                    · rintro w' s0
                      go_simp
                      with_reducible rfl
                    rotate_left
                    · simp only [Act.put, List.setIfInBounds_toArray, List.set_cons_zero, List.set_cons_succ, i64_w, i32_w]
                      rfl
                    refine pure_ (i := 4) (N := some 166) (v := ?_) (a' := ?_) #[true, true, true, true, true, false, false, false, false, false] rfl rfl (by kernel_rfl) (fun _ _ _ h => h) (Or.inl ⟨by rfl, ?_⟩) ?_ ?_
                    rotate_left
                    · intro w'
                      go_simp
                      with_reducible rfl
                    rotate_left
                    · simp only [Act.put, List.setIfInBounds_toArray, List.set_cons_zero, List.set_cons_succ, i64_w, i32_w]
                      rfl
                    refine pure_ (i := 5) (N := some 167) (v := ?_) (a' := ?_) #[true, true, true, true, true, true, false, false, false, false] rfl rfl (by kernel_rfl) (fun _ _ _ h => h) (Or.inl ⟨by rfl, ?_⟩) ?_ ?_
                    rotate_left
                    · intro w'
                      go_simp
                      with_reducible rfl
                    rotate_left
                    · simp only [Act.put, List.setIfInBounds_toArray, List.set_cons_zero, List.set_cons_succ, i64_w, i32_w]
                      rfl
                    refine pure_ (i := 6) (N := some 168) (v := ?_) (a' := ?_) #[true, true, true, true, true, true, true, false, false, false] rfl rfl (by kernel_rfl) (fun _ _ _ h => h) (Or.inl ⟨by rfl, ?_⟩) ?_ ?_
                    rotate_left
                    · intro w'
                      go_simp
                      with_reducible rfl
                    rotate_left
                    · simp only [Act.put, List.setIfInBounds_toArray, List.set_cons_zero, List.set_cons_succ, i64_w, i32_w]
                      rfl
                    refine pure_ (i := 7) (N := some 169) (v := ?_) (a' := ?_) #[true, true, true, true, true, true, true, true, false, false] rfl rfl (by kernel_rfl) (fun _ _ _ h => h) (Or.inl ⟨by rfl, ?_⟩) ?_ ?_
                    rotate_left
                    · intro w'
                      go_simp
                      with_reducible rfl
                    rotate_left
                    · simp only [Act.put, List.setIfInBounds_toArray, List.set_cons_zero, List.set_cons_succ, i64_w, i32_w]
                      rfl
                    refine pure_ (i := 8) (N := some 170) (v := ?_) (a' := ?_) #[true, true, true, true, true, true, true, true, true, false] rfl rfl (by kernel_rfl) (fun _ _ _ h => h) (Or.inl ⟨by rfl, ?_⟩) ?_ ?_
                    rotate_left
                    · intro w'
                      go_simp
                      with_reducible rfl
                    rotate_left
                    · simp only [Act.put, List.setIfInBounds_toArray, List.set_cons_zero, List.set_cons_succ, i64_w, i32_w]
                      rfl
                    rw [andNot_bit HUS.out HNT.out HBIT.out]
                    have hcd := hHeld
                    refine last_ (i := 9) (N := none) #[true, true, true, true, true, true, true, true, true, true] rfl rfl (by kernel_rfl) (by decide) (fun K hK => ?_)
                    refine skip_ (w1 := wd.setCell ⟨gS, 5, none⟩ (.int .i64 (used : Int))) (by rfl) rfl ?_ ?_
                    · first | (go_simp; done) | (go_simp; rfl)
                    refine hK.out _ _ ?_
                    clear hK K
                    refine done_ (by kernel_rfl) ?_
                    have HI9 := Aside0.mk (HID.out.putUsed HNE.out used (w' := wd.setCell ⟨gS, 5, none⟩ (.int .i64 (used : Int))) rfl)
                    have HB9 := Aside0.mk (HBD.out.setCell (show base ≤ (⟨gS, 5, none⟩ : Addr).block from HBS.out) (.int .i64 (used : Int)))
                    clear hHeld hcd hfd hs5 HID HBD
                    generalize wd.setCell ⟨gS, 5, none⟩ (.int .i64 (used : Int)) = w9 at HI9 HB9 ⊢
                    try go_wp2
                    go_roundw
                    case rel => exact HREL.out s2 w9 HI9.out (HB2.out.trans (HB3.out.trans (HBw4.out.trans (HBw5.out.trans (HB6.out.trans (HBw7.out.trans (HBw8.out.trans HB9.out))))))) HH5.out
                    case measure => simp only [intOf]; have := HN.out; have := HLTM.out; omega
              · obtain rfl : m = M := by omega
                have hx : s1 = s' := by
                  have := HH.out
                  rw [Nat.sub_self] at this
                  exact Option.some.inj this
                subst hx
                have hMM := HMM.out
                have hb0 : decide (from_ + (m : Int) ≤ to_) = false := decide_eq_false (by omega)
                clear HH hlt hm hMM
                go_wp2
                first | go_end0 | ((try simp only [Exit.inBlock, Exit.then]); refine bodyPost_ret (results_none rfl _ _ _) rfl ?_)
                exact ⟨rfl, HI2.out, HB2.out⟩
        · have bz : (y != 0) = true := bne_iff_ne.mpr hz
          have HNZ := Aside0.mk hz
          clear hz
          go_wp2
          go_roundw
          case rel => exact ⟨i + 1, HLI.out, by go_num, by first | trivial | rfl, ⟨fun j hj => by
            by_cases e : j = i
            · rw [e, HY.out]; exact .inl HNZ.out
            · exact HZ.out j (by omega)⟩⟩
          case measure => simp [intOf]; have := HLI.out; omega
      · obtain rfl : i = row.length := by omega
        have be : ((row.length : Int) == (row.length : Int)) = true := beq_self_eq_true _
        have hza := seAt_is (Nat.le_refl _) HZ.out (fun h => by omega)
        have hx := H.out
        rw [seF, if_pos hza] at hx
        split at hx
        case isFalse => cases hx
        rename_i hbd
        have hx := Option.some.inj hx
        generalize hxs : (if (s.2.length : Int) < most then s.2 ++ [row] else s.2) = xs2 at hx
        have HXS := Aside0.mk hxs
        subst hx
        clear hxs
        have HBD := Aside0.mk hbd
        have hw7 := wrap_in (n := (s.1 : Int) + 1) (by omega) (by omega)
        have hf7 := (by obtain ⟨v0, ho0, _⟩ := HI.out.out; exact blk_frozen ho0 7 : w.frozen? ⟨gS, 7, none⟩ = false)
        clear H hza hlt hbd
        go_upto_region 5 with (first | ((with_reducible refine gate_store (t := 3) (p := 45) rfl ?_); refine store_event (t := 3) (p := 45) (v := ?vo45) (w1 := (w.setCell ⟨gS, 7, none⟩ (.int .i64 (wrap64 ((s.1 : Int) + 1))))) ?hg ?ho ?hn ?hr ?_; (case ho => rfl); (case hg => rfl); (case hn => rfl); (case hr => first | (go_simp; done) | (go_simp; rfl)); intro w1 hw_; rw [hw7] at hw_; have HI1 := Aside0.mk (HI.out.putCount HNE.out hw_); have HB1 := Aside0.mk (show Below base w w1 by rw [hw_]; exact (Below.refl base w).setCell (show base ≤ (⟨gS, 7, none⟩ : Addr).block from HBS.out) _); clear hw_))
        clear hs0 hs1 hs4 hs6 hs7 hs8 hf7 hw7
        obtain ⟨v1, ho1, hS1⟩ := HI1.out.out
        obtain ⟨A1, c1, e1⟩ := Kd.S_slice hS1
        subst e1
        have hs6 := blk_cell ho1 6
        have hs8 := blk_cell ho1 8
        simp only [List.getElem?_toArray, List.getElem?_cons_zero, List.getElem?_cons_succ] at hs6 hs8
        clear ho1 hS1
        obtain ⟨lt, hlt⟩ : ∃ lt, decide ((s.2.length : Int) < most) = lt := ⟨_, rfl⟩
        go_cut [55] (fun v55 wc => v55 = .bool lt ∧ wc.heap = w1.heap ∧ Aside0 (Below base w1 wc))
        case first =>
          go_quiet (fail)
          try go_wp2
          go_meet
          case rel => exact ⟨rfl, rfl, ⟨pw_below_drewN (Below.refl _ _) _⟩⟩
        case rest =>
          obtain ⟨rfl, hwc, HBC⟩ := hcut
          have HIC := Aside0.mk (HI1.out.same hwc)
          clear hs6 hs8 hwc
          cases lt with
          | false =>
            have hnl : most ≤ (s.2.length : Int) := by have := of_decide_eq_false hlt; omega
            have HNL := Aside0.mk hnl
            clear hnl hlt
            go_wp2
            first | go_end0 | ((try simp only [Exit.inBlock, Exit.then]); refine bodyPost_ret (results_none rfl _ _ _) rfl ?_)
            exact ⟨rfl, by have e := HXS.out; rw [if_neg (Int.not_lt.mpr HNL.out)] at e; rw [← e]; exact HIC.out, HB1.out.trans HBC.out⟩
          | true =>
            have hnl : (s.2.length : Int) < most := of_decide_eq_true hlt
            have HNL := Aside0.mk hnl
            clear hnl hlt
            go_upto_region 6 with (fail)
            obtain ⟨v2, ho2, hS2⟩ := HIC.out.out
            obtain ⟨A2, c2, e2⟩ := Kd.S_slice hS2
            subst e2
            have HO2 := Aside0.mk ho2
            have HS2 := Aside0.mk hS2
            have HR2 := Aside0.mk HIC.out.row
            clear ho2 hS2
            refine start_ (n := 15) (S := fun w' => w'.cell? ⟨gS, 8, none⟩ = some (.slice A2 s.2.length c2) ∧ w'.cell? ⟨gS, 0, none⟩ = some (.slice (some ⟨gr, 0, none⟩) row.length row.length)) (ds := [14]) #[false, false, false, false, false, false, false, false, false, false, false, false, false, false, false] (by kernel_rfl) rfl rfl ⟨(blk_cell HO2.out 8).trans rfl, (blk_cell HO2.out 0).trans rfl⟩ (fun hHeld => ?_)
            have HO3 := Aside0.mk (blk_drew HO2.out)
            have HS3 := Aside0.mk (Kd.S_drew HS2.out)
            have HR3 := Aside0.mk (show IB wc.drew gr row from HR2.out)
            have HB3 := Aside0.mk (below_drew1 (Below.refl base wc))
            generalize wc.drew = w2 at HO3 HS3 HR3 HB3 hHeld ⊢
            refine pure_ (i := 0) (N := some 56) (v := ?_) (a' := ?_) #[true, false, false, false, false, false, false, false, false, false, false, false, false, false, false] rfl rfl (by kernel_rfl) (fun _ _ _ h => h) (Or.inl ⟨by rfl, ?_⟩) ?_ ?_
            rotate_left
            · intro w'
              go_simp
              with_reducible rfl
            rotate_left
            · simp only [Act.put, List.setIfInBounds_toArray, List.set_cons_zero, List.set_cons_succ, i64_w, i32_w]
              rfl
            refine pure_ (i := 1) (N := some 57) (v := ?_) (a' := ?_) #[true, true, false, false, false, false, false, false, false, false, false, false, false, false, false] rfl rfl (by kernel_rfl) (fun _ _ _ h => h) (Or.inl ⟨by rfl, ?_⟩) ?_ ?_
            rotate_left
            · intro w'
              go_simp
              with_reducible rfl
            rotate_left
            · simp only [Act.put, List.setIfInBounds_toArray, List.set_cons_zero, List.set_cons_succ, i64_w, i32_w]
              rfl
            refine pure_ (i := 2) (N := some 58) (v := ?_) (a' := ?_) #[true, true, true, false, false, false, false, false, false, false, false, false, false, false, false] rfl rfl (by kernel_rfl) (fun _ _ _ h => h) (Or.inl ⟨by rfl, ?_⟩) ?_ ?_
            rotate_left
            · intro w'
              go_simp
              with_reducible rfl
            rotate_left
            · simp only [Act.put, List.setIfInBounds_toArray, List.set_cons_zero, List.set_cons_succ, i64_w, i32_w]
              rfl
            refine pure_ (i := 3) (N := some 59) (v := ?_) (a' := ?_) #[true, true, true, true, false, false, false, false, false, false, false, false, false, false, false] rfl rfl (by kernel_rfl) (fun _ _ _ h => h) (Or.inl ⟨by rfl, ?_⟩) ?_ ?_
            rotate_left
            · intro w'
              go_simp
              with_reducible rfl
            rotate_left
            · simp only [Act.put, List.setIfInBounds_toArray, List.set_cons_zero, List.set_cons_succ, i64_w, i32_w]
              rfl
            refine take_ (i := 4) (N := some 60) (v := ?_) (a' := ?_) #[true, true, true, true, true, false, false, false, false, false, false, false, false, false, false] rfl rfl (by kernel_rfl) (fun _ _ _ h => h) (Or.inl ⟨by rfl, ?_⟩) hHeld ?_ ?_
            rotate_left
            · rintro w' ⟨s0, s1⟩
              go_simp
              with_reducible rfl
            rotate_left
            · simp only [Act.put, List.setIfInBounds_toArray, List.set_cons_zero, List.set_cons_succ, i64_w, i32_w]
              rfl
            refine pure_ (i := 5) (N := some 61) (v := ?_) (a' := ?_) #[true, true, true, true, true, true, false, false, false, false, false, false, false, false, false] rfl rfl (by kernel_rfl) (fun _ _ _ h => h) (Or.inl ⟨by rfl, ?_⟩) ?_ ?_
            rotate_left
            · intro w'
              go_simp
              with_reducible rfl
            rotate_left
            · simp only [Act.put, List.setIfInBounds_toArray, List.set_cons_zero, List.set_cons_succ, i64_w, i32_w]
              rfl
            refine pure_ (i := 6) (N := some 62) (v := ?_) (a' := ?_) #[true, true, true, true, true, true, true, false, false, false, false, false, false, false, false] rfl rfl (by kernel_rfl) (fun _ _ _ h => h) (Or.inl ⟨by rfl, ?_⟩) ?_ ?_
            rotate_left
            · intro w'
              go_simp
              with_reducible rfl
            rotate_left
            · simp only [Act.put, List.setIfInBounds_toArray, List.set_cons_zero, List.set_cons_succ, i64_w, i32_w]
              rfl
            refine pure_ (i := 7) (N := some 63) (v := ?_) (a' := ?_) #[true, true, true, true, true, true, true, true, false, false, false, false, false, false, false] rfl rfl (by kernel_rfl) (fun _ _ _ h => h) (Or.inl ⟨by rfl, ?_⟩) ?_ ?_
            rotate_left
            · intro w'
              go_simp
              with_reducible rfl
            rotate_left
            · simp only [Act.put, List.setIfInBounds_toArray, List.set_cons_zero, List.set_cons_succ, i64_w, i32_w]
              rfl
            refine take_ (i := 8) (N := some 64) (v := ?_) (a' := ?_) #[true, true, true, true, true, true, true, true, true, false, false, false, false, false, false] rfl rfl (by kernel_rfl) (fun _ _ _ h => h) (Or.inl ⟨by rfl, ?_⟩) hHeld ?_ ?_
            rotate_left
            · rintro w' ⟨s0, s1⟩
              go_simp
              with_reducible rfl
            rotate_left
            · simp only [Act.put, List.setIfInBounds_toArray, List.set_cons_zero, List.set_cons_succ, i64_w, i32_w]
              rfl
            refine one_ (i := 9) (N := some 65) #[true, true, true, true, true, true, true, true, true, true, false, false, false, false, false] rfl rfl (by kernel_rfl) (by decide) (fun K hK => ?_)
            refine goes_ Try.func50 (by kernel_rfl) rfl #[.slice (some ⟨gr, 0, none⟩) row.length row.length] (by rfl) rfl rfl (by (try simp only [List.map_toArray, List.map_cons, List.map_nil]); first | done | rfl) ?_
            refine (spec_l1Own.calls (some ⟨gr, 0, none⟩) row.length row row w2 (HR3.out.C (by have := HR1.out; omega)) (Nat.le_refl _) HOWN.out).mono ?_
            rintro e w3 ⟨v3, rfl, hv3, hb3⟩
            refine ⟨_, rfl, ?_⟩
            have HV3 := Aside0.mk hv3
            have HB4 := Aside0.mk hb3
            have HO4 := Aside0.mk (blk_below HO3.out hb3)
            have HR4 := Aside0.mk (show IB w3 gr row from blk_below HR3.out hb3)
            have HS4 := Aside0.mk (Kd.S_below (Kd.S_bound HS3.out) hb3)
            clear hv3 hb3
            refine hK.out _ _ ⟨(blk_cell HO4.out 8).trans rfl, (blk_cell HO4.out 0).trans rfl⟩ (fun hHeld => ?_)
            clear hK K
            refine norm_ (a' := ?_) ?_ ?_
            rotate_left
            · show Act.put _ (some 65) _ = _
              simp only [Act.put, List.setIfInBounds_toArray, List.set_cons_zero, List.set_cons_succ, i64_w, i32_w]
              rfl
            obtain ⟨A4, c4, e4⟩ := Kd.R_slice HV3.out
            subst e4
            refine one_ (i := 10) (N := some 66) #[true, true, true, true, true, true, true, true, true, true, true, false, false, false, false] rfl rfl (by kernel_rfl) (by decide) (fun K hK => ?_)
            refine value_ (v := .slice (some ⟨w3.heap.size, 0, none⟩) 1 1) (w1 := w3.alloc (.cells #[.slice A4 row.length c4] 25)) (by rfl) rfl ?_ ?_
            · first | (go_simp; done) | (go_simp; rfl)
            refine hK.out _ _ ⟨(blk_cell (blk_alloc HO4.out _) 8).trans rfl, (blk_cell (blk_alloc HO4.out _) 0).trans rfl⟩ (fun hHeld => ?_)
            clear hK K
            refine norm_ (a' := ?_) ?_ ?_
            rotate_left
            · show Act.put _ (some 66) _ = _
              simp only [Act.put, List.setIfInBounds_toArray, List.set_cons_zero, List.set_cons_succ, i64_w, i32_w]
              rfl
            refine one_ (i := 11) (N := some 67) #[true, true, true, true, true, true, true, true, true, true, true, true, false, false, false] rfl rfl (by kernel_rfl) (by decide) (fun K hK => ?_)
            have hsz := HB4.out.size
            have hgS := blk_lt HO3.out
            have hgr := blk_lt HR3.out
            have hb2 : base ≤ w2.heap.size := by have := HBS.out; omega
            refine Kd.S_append_step (Kd.slice 3 (Kd.int .i64)) (w0 := wc) (W := w3) base (by rfl) (.tmp 60) (.tmp 66) 36 25 (.slice none 0 0) 24 rfl Try.underlying36 info25 rfl (by decide) (by omega) (.slice A2 s.2.length c2) s.2 row [.slice A4 row.length c4] (fun k => k ≠ gS ∧ k ≠ gr) (fun k_ => some k_ = (.slice A4 row.length c4 : Value).ownBlock) rfl rfl ?aP ?aK ?aF ?aO ?aB ?aS ?aL ?_
            case aP => exact Kd.M_row (Kd.R_mono (Kd.R_tight rfl (Kd.R_lower HV3.out hb2)) (fun _ h_ => h_))
            case aK =>
              intro k hk
              have h1 := Kd.R_base HV3.out k hk.symm
              exact ⟨⟨by omega, by omega⟩, fun e => by have := Kd.S_lt HS3.out k e.symm; omega⟩
            case aF => exact fun k hk => ⟨by omega, by omega⟩
            case aO =>
              refine Kd.S_mono HS4.out (fun k hk => ⟨hk.1, fun e => ?_⟩)
              have h1 := Kd.R_base HV3.out k e.symm
              have := hk.2.2.1
              omega
            case aB => exact HB3.out.trans (HB4.out.mono hb2)
            case aS => omega
            case aL => have := HBD.out.2; omega
            intro v4 w4 hS4 hB4 hg4 hat4
            have HO5 := Aside0.mk (blk_grown HO4.out hg4 (Kd.S_ne HS4.out HO4.out (by decide)))
            have HR5 := Aside0.mk (show IB w4 gr row from blk_grown HR4.out hg4 (Kd.S_ne HS4.out HR4.out (by decide)))
            have HB5 := Aside0.mk hB4
            have HS5 := Aside0.mk hS4
            clear hsz hb2 hgS hgr hS4 hB4 hg4 hat4
            obtain ⟨A5, c5, e5⟩ := Kd.S_slice HS5.out
            subst e5
            refine hK.out _ _ ⟨(blk_cell HO5.out 8).trans rfl, (blk_cell HO5.out 0).trans rfl⟩ (fun hHeld => ?_)
            clear hK K
            refine norm_ (a' := ?_) ?_ ?_
            rotate_left
            · show Act.put _ (some 67) _ = _
              simp only [Act.put, List.setIfInBounds_toArray, List.set_cons_zero, List.set_cons_succ, i64_w, i32_w]
              rfl
            refine pure_ (i := 12) (N := some 68) (v := ?_) (a' := ?_) #[true, true, true, true, true, true, true, true, true, true, true, true, true, false, false] rfl rfl (by kernel_rfl) (fun _ _ _ h => h) (Or.inl ⟨by rfl, ?_⟩) ?_ ?_
            rotate_left
            · intro w'
              go_simp
              with_reducible rfl
            rotate_left
            · simp only [Act.put, List.setIfInBounds_toArray, List.set_cons_zero, List.set_cons_succ, i64_w, i32_w]
              rfl
            refine pure_ (i := 13) (N := some 69) (v := ?_) (a' := ?_) #[true, true, true, true, true, true, true, true, true, true, true, true, true, true, false] rfl rfl (by kernel_rfl) (fun _ _ _ h => h) (Or.inl ⟨by rfl, ?_⟩) ?_ ?_
            rotate_left
            · intro w'
              go_simp
              with_reducible rfl
            rotate_left
            · simp only [Act.put, List.setIfInBounds_toArray, List.set_cons_zero, List.set_cons_succ, i64_w, i32_w]
              rfl
            have hc8 := hHeld.1
            have hf8 := blk_frozen HO5.out 8
            refine last_ (i := 14) (N := none) #[true, true, true, true, true, true, true, true, true, true, true, true, true, true, true] rfl rfl (by kernel_rfl) (by decide) (fun K hK => ?_)
            refine skip_ (w1 := w4.setCell ⟨gS, 8, none⟩ (.slice A5 (s.2 ++ [row]).length c5)) (by rfl) rfl ?_ ?_
            · first | (go_simp; done) | (go_simp; rfl)
            refine hK.out _ _ ?_
            clear hK K
            refine done_ (by kernel_rfl) ?_
            have HI6 := Aside0.mk (show SeI base gS gr from_ to_ shift hole most row used (s.1 + 1, s.2 ++ [row]) (w4.setCell ⟨gS, 8, none⟩ (.slice A5 (s.2 ++ [row]).length c5)) from ⟨⟨_, blk_put HO5.out 8 _ rfl, Kd.S_step HS5.out (fun k ho hl => Below.heap_setCell _ _ _ _ ho.1)⟩, (show IB _ gr row from (Below.heap_setCell _ _ _ _ HNE.out.symm).trans HR5.out)⟩)
            have HB6 := Aside0.mk (HB5.out.setCell (show base ≤ (⟨gS, 8, none⟩ : Addr).block from HBS.out) (.slice A5 (s.2 ++ [row]).length c5))
            clear hHeld hc8 hf8
            generalize w4.setCell ⟨gS, 8, none⟩ (.slice A5 (s.2 ++ [row]).length c5) = w5 at HI6 HB6 ⊢
            try go_wp2
            first | go_end0 | ((try simp only [Exit.inBlock, Exit.then]); refine bodyPost_ret (results_none rfl _ _ _) rfl ?_)
            exact ⟨rfl, by have e := HXS.out; rw [if_pos HNL.out] at e; rw [← e]; exact HI6.out, HB1.out.trans (HBC.out.trans HB6.out)⟩


end Go.Proofs.Ytmhcgihkijiecaa.Fn
namespace Go.Proofs.Ytmhcgihkijiecaa.Fn
open Go.RowKit Go.Proofs.YtmhcgihkijiecaaW.PrintWords Go.Proofs.YtmhcgihkijiecaaW.PrintLast Go.Proofs.YtmhcgihkijiecaaW.PrintMore
attribute [local go_sem] max2_int min2_int max_two min_two max_three min_three max_four min_four   -- for this text's walks alone
set_option linter.unusedVariables false
set_option linter.unusedSimpArgs false

/-! ### slices_Clone_int_int: function 53 (given) -/
def slices_Clone_int_int.f (l0 : List Int) : Option (List Int) := if l0.length < 17592186044416 then some l0 else none
theorem slices_Clone_int_int.app_room {y l : List Int} (h1 : l.length < 17592186044416) (h2 : y = []) : (y.length + l.length) * 8 ≤ 140737488355328 := by
  subst h2; simp; omega
set_option maxHeartbeats 8000000 in
set_option maxRecDepth 100000 in
theorem slices_Clone_int_int.calls (A0 : Option Addr) (c0 : Nat) (l0 : List Int) (r : List Int) (w : World) (hr0 : Kd.C (Kd.int .i64) w A0 l0.length l0) (hc0 : l0.length ≤ c0) (h : slices_Clone_int_int.f l0 = some r) :
    Calls Try.prog 53 #[.slice A0 l0.length c0] w fun e w' => ∃ v0_ : Value, e = .returned (v0_) ∧ Kd.R (Kd.int .i64) 3 w' w.heap.size (fun _ => True) v0_ r ∧ Below w.heap.size w w' := by
  have HR0 := Aside0.mk hr0
  have hlen : l0.length < 17592186044416 := by
    unfold slices_Clone_int_int.f at h
    split at h
    · assumption
    · cases h
  obtain rfl : l0 = r := by
    unfold slices_Clone_int_int.f at h
    rw [if_pos hlen] at h
    exact Option.some.inj h
  have LM := Aside0.mk hlen
  have HB := Aside0.mk (Below.refl w.heap.size w)
  have hu := Try.underlying25
  have heq := fun (w : World) => Lib.run_eql_slice_nil (P := Try.prog) w 25 3 A0 l0.length c0 0 0 hu
  clear h hlen hc0
  cases A0 with
  | none =>
    have hl : l0 = [] := by
      cases l0 with
      | nil => rfl
      | cons x xs =>
        obtain ⟨ad, e, _⟩ := hr0.2.2 (by simp)
        cases e
    have HL := Aside0.mk hl
    clear hr0 hl
    go_enter Try.func53, Try.ntmps53
    go_wp2
    go_ret
    exact ⟨_, rfl, by rw [HL.out]; exact Kd.R_nil _ _ _ _ _, by repeat (first | (with_reducible first | exact HB.out | apply below_alloc | apply pw_below_drewN | apply below_drew1) | exact HB.out)⟩
  | some ad =>
    clear hr0
    obtain ⟨y113, hy113⟩ : ∃ y_ : List Int, y_ = (([] : List Int)) := ⟨_, rfl⟩
    have Ny113 := Aside0.mk hy113
    clear hy113
    obtain ⟨y116, hy116⟩ : ∃ y_ : List Int, y_ = (y113 ++ l0) := ⟨_, rfl⟩
    have Ny116 := Aside0.mk hy116
    clear hy116
    go_enter Try.func53, Try.ntmps53
    go_wp2_with (first | ((with_reducible refine gate_dst (N := 5) rfl ?_); refine Kd.R_lit (Kd.int .i64) _ 3 ?hg (N := 5) ?hd (xs := ([] : List Int)) (inner := []) (ok := fun _ => True) (okp := fun _ => True) ?hr ?hp (fun _ hk => hk) trivial (Below.refl _ _) (Nat.le_refl _) (by simp) ?_; (case hd => rfl); (case hg => rfl); (case hr => first | (go_simp; done) | (go_simp; rfl)); (case hp => exact (Reps.none _ _)); intro v114 w3 ho4 hb hg_ hnew_; clear hg_ hnew_; (first | rw [← Ny113.out] at ho4 | (simp only [Int.reduceToNat] at ho4; rw [← Ny113.out] at ho4)); have n0_ := Aside0.mk (Kd.R_lower ho4 (below_size (by repeat (first | (with_reducible first | exact HB.out | apply below_alloc | apply pw_below_drewN | apply below_drew1) | exact HB.out)))); have n1_ := Aside0.mk (below_step (by repeat (first | (with_reducible first | exact HB.out | apply below_alloc | apply pw_below_drewN | apply below_drew1) | exact HB.out)) hb); clear HB; have HO115 := n0_; have HB := n1_; clear n0_ n1_; clear hb ho4) | ((with_reducible refine gate_builtin (b := .append) (xs := #[.tmp 5, .tmp 6]) rfl ?_); at_builtin; refine Kd.R_append_rows (Kd.int .i64) (w0 := w) w.heap.size rfl (.tmp 5) (.tmp 6) 25 3 (.int .i64 0) 8 rfl Try.underlying25 info3 rfl (by decide) (by omega) v114 y113 l0 _ _ _ (fun _ => True) (fun _ => False) rfl rfl ?aO ?aR (fun _ _ h => h) (fun _ h => h.elim) ?aF ?aB ?aS ?aL ?_; (case aR => repeat (first | exact (Kd.C_below HR0.out HB.out) | (with_reducible refine Kd.C_alloc ?_ _) | (with_reducible refine Kd.C_drewN ?_ _) | (with_reducible refine Kd.C_drew ?_))); (case aB => exact (by repeat (first | (with_reducible first | exact HB.out | apply below_alloc | apply pw_below_drewN | apply below_drew1) | exact HB.out))); (case aF => exact (fun _ _ => trivial)); (case aO => exact (by (with_reducible repeat (first | apply Kd.R_alloc | apply Kd.R_drewN | apply Kd.R_drew)); exact HO115.out)); (case aS => exact (below_size (by repeat (first | (with_reducible first | exact HB.out | apply below_alloc | apply pw_below_drewN | apply below_drew1) | exact HB.out)))); (case aL => exact slices_Clone_int_int.app_room LM.out Ny113.out); intro v117 w5 ho hb hg hat; rw [← Ny116.out] at ho; have n0_ := Aside0.mk (hb); have n1_ := Aside0.mk (ho); clear HB; clear HO115; have HB := n0_; have HO118 := n1_; clear n0_ n1_; clear ho hb hg hat))
    go_ret
    exact ⟨_, rfl, by (with_reducible repeat (first | apply Kd.R_alloc | apply Kd.R_drewN | apply Kd.R_drew)); have h := HO118.out; rw [Ny116.out, Ny113.out, List.nil_append] at h; exact h, by repeat (first | (with_reducible first | exact HB.out | apply below_alloc | apply pw_below_drewN | apply below_drew1) | exact HB.out)⟩


end Go.Proofs.Ytmhcgihkijiecaa.Fn
namespace Go.Proofs.Ytmhcgihkijiecaa.Fn
open Go.RowKit Go.Proofs.YtmhcgihkijiecaaW.PrintWords Go.Proofs.YtmhcgihkijiecaaW.PrintLast Go.Proofs.YtmhcgihkijiecaaW.PrintMore
attribute [local go_sem] max2_int min2_int max_two min_two max_three min_three max_four min_four   -- for this text's walks alone
set_option linter.unusedVariables false
set_option linter.unusedSimpArgs false

/-! ### impl_kind_all: function 59 (given) -/
/-! ### what kind.all calls: each row is kept, until there are too many -/
/-- The rows that were found lie in the variable at bo; none of their blocks is one of X. -/
structure AllI (base bo bm : Nat) (most : Int) (X : Nat → Prop) (xs : List (List Int)) (w : World) : Prop where
  out : ∃ v, w.heap[bo]? = some (.cells #[v] 36 (0, 0)) ∧ Kd.S (Kd.slice 3 (Kd.int .i64)) 25 w base (fun k => ¬ X k) v xs
  most : w.heap[bm]? = some (.cells #[.int .i64 most] 3 (0, 0))
  bo : base ≤ bo
  bm : base ≤ bm
  lt : ∀ k, X k → k < w.heap.size
def eachAll (most : Int) (xs : List (List Int)) (row : List Int) : Option (List (List Int) × Bool) := if xs.length < 5864062014805 then some (xs ++ [row], decide (most < ((xs.length + 1 : Nat) : Int))) else none
set_option maxHeartbeats 8000000 in
set_option maxRecDepth 100000 in
theorem all1_call {base bo bm : Nat} {most : Int} {X : Nat → Prop} (hXo : ¬ X bo) (hXm : ¬ X bm) (xs : List (List Int)) (row : List Int) (A : Option Addr) (c : Nat) (w : World) (hI : AllI base bo bm most X xs w) (hr : Kd.C (Kd.int .i64) w A row.length row) (hc : row.length ≤ c) (hl : row.length ≤ 1000) (hx : xs.length < 5864062014805) :
    Calls Try.prog 83 #[.slice A row.length c, .pointer (some ⟨bo, 0, none⟩), .pointer (some ⟨bm, 0, none⟩)] w fun e w' => e = .returned (.bool (decide (most < ((xs.length + 1 : Nat) : Int)))) ∧ AllI base bo bm most X (xs ++ [row]) w' ∧ Below base w w' ∧ (∀ k, X k → w'.heap[k]? = w.heap[k]?) := by
  obtain ⟨⟨v, h1, h2⟩, h3, h4, h5, h6⟩ := hI
  have HO := Aside0.mk h1
  have HS := Aside0.mk h2
  have HM := Aside0.mk h3
  have H4 := Aside0.mk h4
  have H5 := Aside0.mk h5
  have H6 := Aside0.mk h6
  have HR := Aside0.mk hr
  have HC := Aside0.mk hc
  have HL := Aside0.mk hl
  have HX := Aside0.mk hx
  have HXO := Aside0.mk hXo
  have HXM := Aside0.mk hXm
  clear h1 h2 h3 h4 h5 h6 hr hc hl hx hXo hXm
  have hcl : slices_Clone_int_int.f row = some row := if_pos (by have := HL.out; omega)
  have HCL := Aside0.mk hcl
  clear hcl
  go_enter Try.func83, Try.ntmps83
  go_upto_region 1 with (fail)
  refine start_ (n := 6) (S := fun w' => w'.cell? ⟨bo, 0, none⟩ = some v) (ds := [5]) #[false, false, false, false, false, false] (by kernel_rfl) rfl rfl (show w.drew.cell? ⟨bo, 0, none⟩ = some v from cell_of_one HO.out) (fun hHeld => ?_)
  have HO1 := Aside0.mk (show w.drew.heap[bo]? = some (.cells #[v] 36 (0, 0)) from HO.out)
  have HM1 := Aside0.mk (show w.drew.heap[bm]? = some (.cells #[.int .i64 most] 3 (0, 0)) from HM.out)
  have HS1 := Aside0.mk (Kd.S_drew HS.out)
  have HR1 := Aside0.mk (Kd.C_drew HR.out)
  have HB1 := Aside0.mk (below_drew1 (Below.refl base w))
  have HK1 := Aside0.mk (show ∀ k, X k → w.drew.heap[k]? = w.heap[k]? from fun _ _ => rfl)
  have HL1 := Aside0.mk (show ∀ k, X k → k < w.drew.heap.size from H6.out)
  generalize w.drew = w1 at HO1 HM1 HS1 HR1 HB1 HK1 HL1 hHeld ⊢
  refine take_ (i := 0) (N := some 5) (v := ?_) (a' := ?_) #[true, false, false, false, false, false] rfl rfl (by kernel_rfl) (fun _ _ _ h => h) (Or.inl ⟨by rfl, ?_⟩) hHeld ?_ ?_
  rotate_left
  · rintro w' s0
    go_simp
    with_reducible rfl
  rotate_left
  · simp only [Act.put, List.setIfInBounds_toArray, List.set_cons_zero, List.set_cons_succ, i64_w, i32_w]
    rfl
  refine pure_ (i := 1) (N := some 6) (v := ?_) (a' := ?_) #[true, true, false, false, false, false] rfl rfl (by kernel_rfl) (fun _ _ _ h => h) (Or.inl ⟨by rfl, ?_⟩) ?_ ?_
  rotate_left
  · intro w'
    go_simp
    with_reducible rfl
  rotate_left
  · simp only [Act.put, List.setIfInBounds_toArray, List.set_cons_zero, List.set_cons_succ, i64_w, i32_w]
    rfl
  refine one_ (i := 2) (N := some 7) #[true, true, true, false, false, false] rfl rfl (by kernel_rfl) (by decide) (fun K hK => ?_)
  refine goes_ Try.func53 (by kernel_rfl) rfl #[.slice A row.length c] (by rfl) rfl rfl (by (try simp only [List.map_toArray, List.map_cons, List.map_nil]); first | done | rfl) ?_
  refine (slices_Clone_int_int.calls A c row row w1 HR1.out HC.out HCL.out).mono ?_
  rintro e w2 ⟨v2, rfl, hv2, hb2⟩
  refine ⟨_, rfl, ?_⟩
  have HV2 := Aside0.mk hv2
  have HB2 := Aside0.mk hb2
  have HO2 := Aside0.mk (blk_below HO1.out hb2)
  have HM2 := Aside0.mk (blk_below HM1.out hb2)
  have HS2 := Aside0.mk (Kd.S_below (Kd.S_bound HS1.out) hb2)
  clear hv2 hb2
  refine hK.out _ _ (cell_of_one HO2.out) (fun hHeld => ?_)
  clear hK K
  refine norm_ (a' := ?_) ?_ ?_
  rotate_left
  · show Act.put _ (some 7) _ = _
    simp only [Act.put, List.setIfInBounds_toArray, List.set_cons_zero, List.set_cons_succ, i64_w, i32_w]
    rfl
  obtain ⟨A2, c2, e2⟩ := Kd.R_slice HV2.out
  subst e2
  refine one_ (i := 3) (N := some 8) #[true, true, true, true, false, false] rfl rfl (by kernel_rfl) (by decide) (fun K hK => ?_)
  refine value_ (v := .slice (some ⟨w2.heap.size, 0, none⟩) 1 1) (w1 := w2.alloc (.cells #[.slice A2 row.length c2] 25)) (by rfl) rfl ?_ ?_
  · first | (go_simp; done) | (go_simp; rfl)
  refine hK.out _ _ (cell_of_one (blk_alloc HO2.out _)) (fun hHeld => ?_)
  clear hK K
  refine norm_ (a' := ?_) ?_ ?_
  rotate_left
  · show Act.put _ (some 8) _ = _
    simp only [Act.put, List.setIfInBounds_toArray, List.set_cons_zero, List.set_cons_succ, i64_w, i32_w]
    rfl
  refine one_ (i := 4) (N := some 9) #[true, true, true, true, true, false] rfl rfl (by kernel_rfl) (by decide) (fun K hK => ?_)
  have hsz := HB2.out.size
  have hb1 : base ≤ w1.heap.size := by have := blk_lt HO1.out; have := H4.out; omega
  refine Kd.S_append_step (Kd.slice 3 (Kd.int .i64)) (w0 := w) (W := w2) base (by rfl) (.tmp 5) (.tmp 8) 36 25 (.slice none 0 0) 24 rfl Try.underlying36 info25 rfl (by decide) (by omega) v xs row [.slice A2 row.length c2] (fun k => ¬ X k) (fun k_ => some k_ = (.slice A2 row.length c2 : Value).ownBlock) rfl rfl ?aP ?aK ?aF ?aO ?aB ?aS ?aL ?_
  case aP => exact Kd.M_row (Kd.R_mono (Kd.R_tight rfl (Kd.R_lower HV2.out hb1)) (fun _ h_ => h_))
  case aK =>
    intro k hk
    have h1 := Kd.R_base HV2.out k hk.symm
    exact ⟨fun hx => by have := HL1.out k hx; omega, fun e => by have := Kd.S_lt HS1.out k e.symm; omega⟩
  case aF => exact fun k hk hx => by have := HL1.out k hx; omega
  case aO =>
    refine Kd.S_mono HS2.out (fun k hk => ⟨hk.1, fun e => ?_⟩)
    have h1 := Kd.R_base HV2.out k e.symm
    have := hk.2.2.1
    omega
  case aB => exact HB1.out.trans (HB2.out.mono hb1)
  case aS => omega
  case aL => have := HX.out; omega
  intro v1 w3 hS3 hB3 hg3 hat3
  have HO3 := blk_grown HO2.out hg3 (Kd.S_ne HS2.out HO2.out (by decide))
  have HM3 := Aside0.mk (blk_grown HM2.out hg3 (Kd.S_ne HS2.out HM2.out (by decide)))
  have HK3 := Aside0.mk (show ∀ k, X k → w3.heap[k]? = w.heap[k]? from fun k hk => (hg3.block k (by have := HL1.out k hk; omega) (fun e => ((Kd.S_R HS2.out).1 k e.symm).1 hk)).trans ((HB2.out.block k (HL1.out k hk)).trans (HK1.out k hk)))
  have HB3 := Aside0.mk hB3
  have HS3 := Aside0.mk hS3
  have HL3 := Aside0.mk (show ∀ k, X k → k < w3.heap.size from fun k hk => by have := HL1.out k hk; have := hg3.size; omega)
  clear hsz hb1 hS3 hB3 hg3 hat3
  have hHeld0 := cell_of_one HO3
  have hc3 := hHeld0
  have hf3 := free_of_one HO3
  have HO3 := Aside0.mk HO3
  obtain ⟨A4, c4, e4⟩ := Kd.S_slice HS3.out
  subst e4
  refine hK.out _ _ hHeld0 (fun hHeld => ?_)
  clear hK K
  refine norm_ (a' := ?_) ?_ ?_
  rotate_left
  · show Act.put _ (some 9) _ = _
    simp only [Act.put, List.setIfInBounds_toArray, List.set_cons_zero, List.set_cons_succ, i64_w, i32_w]
    rfl
  refine last_ (i := 5) (N := none) #[true, true, true, true, true, true] rfl rfl (by kernel_rfl) (by decide) (fun K hK => ?_)
  refine skip_ (w1 := w3.setCell ⟨bo, 0, none⟩ (.slice A4 (xs ++ [row]).length c4)) (by rfl) rfl ?_ ?_
  · first | (go_simp; done) | (go_simp; rfl)
  refine hK.out _ _ ?_
  clear hK K
  refine done_ (by kernel_rfl) ?_
  have hno : bo ≠ bm := fun e => by
    have h1 := HO3.out
    rw [e, HM3.out] at h1
    simp at h1
  have HO4 := Aside0.mk (one_setCell (u := (.slice A4 (xs ++ [row]).length c4)) HO3.out)
  have HM4 := Aside0.mk (blk_far HM3.out (show bm ≠ (⟨bo, 0, none⟩ : Addr).block from fun e => hno e.symm) (.slice A4 (xs ++ [row]).length c4))
  have HS4 := Aside0.mk (Kd.S_set HS3.out HO3.out (by decide) 0 (.slice A4 (xs ++ [row]).length c4))
  have HB4 := Aside0.mk (HB3.out.setCell (show base ≤ (⟨bo, 0, none⟩ : Addr).block from H4.out) (.slice A4 (xs ++ [row]).length c4))
  have HK4 := Aside0.mk (show ∀ k, X k → (w3.setCell ⟨bo, 0, none⟩ (.slice A4 (xs ++ [row]).length c4)).heap[k]? = w.heap[k]? from fun k hk => (Below.heap_setCell w3 _ _ k (fun e => HXO.out (by rw [show k = bo from e] at hk; exact hk))).trans (HK3.out k hk))
  have HL4 := Aside0.mk (show ∀ k, X k → k < (w3.setCell ⟨bo, 0, none⟩ (.slice A4 (xs ++ [row]).length c4)).heap.size from fun k hk => by rw [size_setCell]; exact HL3.out k hk)
  clear hno hc3 hf3 hHeld hHeld0
  generalize w3.setCell ⟨bo, 0, none⟩ (.slice A4 (xs ++ [row]).length c4) = w4 at HO4 HM4 HS4 HB4 HK4 HL4 ⊢
  have hc4 := cell_of_one HO4.out
  have hc5 := cell_of_one HM4.out
  have hlen : (xs ++ [row]).length = xs.length + 1 := by simp
  rw [hlen] at hc4
  have HLEN := Aside0.mk hlen
  clear hlen
  go_wp2
  go_ret
  refine ⟨rfl, ⟨⟨_, HO4.out, HS4.out⟩, HM4.out, H4.out, H5.out, HL4.out⟩, HB4.out, HK4.out⟩
theorem AllI.stable {base bo bm : Nat} {most : Int} {X : Nat → Prop} (hXo : ¬ X bo) (hXm : ¬ X bm) {xs : List (List Int)} {w w' : World} (h : AllI base bo bm most X xs w) (hs : w.heap.size ≤ w'.heap.size) (hk : ∀ k, k < w.heap.size → ¬ X k → w'.heap[k]? = w.heap[k]?) : AllI base bo bm most X xs w' := by
  obtain ⟨⟨v, h1, h2⟩, h3, h4, h5, h6⟩ := h
  exact ⟨⟨v, (hk bo (blk_lt h1) hXo).trans h1, Kd.S_step h2 (fun k ho hl => hk k hl ho)⟩, (hk bm (blk_lt h3) hXm).trans h3, h4, h5, fun k hx => Nat.lt_of_lt_of_le (h6 k hx) hs⟩
theorem all1_ok {base bo bm N : Nat} {most : Int} {X : Nat → Prop} (hX : ∀ k, X k → N ≤ k) (hbo : bo < N) (hbm : bm < N) : EachOk base X 83 #[.pointer (some ⟨bo, 0, none⟩), .pointer (some ⟨bm, 0, none⟩)] (eachAll most) (AllI base bo bm most X) := by
  have hXo : ¬ X bo := fun h => by have := hX bo h; omega
  have hXm : ¬ X bm := fun h => by have := hX bm h; omega
  refine ⟨⟨_, Try.func83, by kernel_rfl, rfl⟩, fun s w w' h hs hk => h.stable hXo hXm hs hk, fun s row A c w s' b hI hr hc hl h => ?_⟩
  unfold eachAll at h
  split at h
  · rename_i hx
    obtain ⟨rfl, rfl⟩ := Prod.mk.inj (Option.some.inj h)
    exact all1_call hXo hXm s row A c w hI hr hc hl hx
  · cases h
/-- What kind.all asks of a kind, a function of a function: it comes to the state s', whatever else there is. -/
def KindAll (kf : FuncId) (first caps : Array Value) (base : Nat) (Pre : World → Prop) (most : Int) (xs : List (List Int)) : Prop :=
  ∀ (bo bm : Nat) (w : World), Pre w → base ≤ w.heap.size → base ≤ bo → base ≤ bm → bo < w.heap.size → bm < w.heap.size →
    (∀ (X : Nat → Prop) w', Below w.heap.size w w' → (∀ k, X k → w.heap.size ≤ k ∧ k < w'.heap.size) → AllI base bo bm most X [] w') →
    Calls Try.prog kf (first ++ #[.func (.func 83) #[] #[.pointer (some ⟨bo, 0, none⟩), .pointer (some ⟨bm, 0, none⟩)]] ++ caps) w fun e w' => e = .returned (.tuple #[]) ∧ (∃ X : Nat → Prop, (∀ k, X k → w.heap.size ≤ k) ∧ AllI base bo bm most X xs w') ∧ Below base w w'
section
variable {P : Program} {ops : Array Oper} {Q : Exit → Act → World → Prop}
/-- A call of a function value with arguments of its own. -/
theorem goesW_ {rest : List Oper} {oi : Oper} {a : Act} {w : World} (N : Option Tmp) (hd : oi.dst = N) (hg : oi.guard = none) {f : FuncId} {fn : Func} {p : Tmp} {xs : Array Operand} {ts : Array TypeId} {first caps : Array Value} (hf : P.funcs[f]? = some fn) (hname : (fn.name == "runtime.NumGoroutine") = false) (hb : fn.body.isSome = true) (args : Array Value)
    (hop : oi.op = .call { callee := .value (.tmp p), args := xs, argTypes := ts }) (hv : a.eval (.tmp p) = .func (.func f) first caps) (hargs : xs.map a.eval = args)
    (h : Calls P f (first ++ args ++ caps) w fun e w' => ∃ v, e = .returned v ∧ wpList P ops Q rest (a.put N v) w') : wpList P ops Q (oi :: rest) a w := by
  refine wpList_plain hg fun K hK => ?_
  have he := enters_ hf hname hb (first ++ args ++ caps) w
  have hrun : (execOp a.eval oi).run P w = .ok (.enter f (first ++ args ++ caps)) w := by
    rw [Array.append_assoc] at he ⊢
    unfold execOp
    simp [hop, resolve, Deferred.ofValue, invoke, hv, hargs, he]
  unfold Oper.wp
  rw [hrun, Oper.upon_enter]
  refine h.mono fun e w'' hh => ?_
  obtain ⟨v, rfl, hk⟩ := hh
  subst hd
  exact hK _ _ hk
end
set_option maxHeartbeats 8000000 in
set_option maxRecDepth 100000 in
theorem kind_all_call {kf : FuncId} {kfn : Func} {first caps : Array Value} {Pre : World → Prop} {most : Int} {xs : List (List Int)} (w : World) (hf1 : Try.prog.funcs[kf]? = some kfn) (hf2 : (kfn.name == "runtime.NumGoroutine") = false) (hf3 : kfn.body.isSome = true) (hP : ∀ w', Below w.heap.size w w' → Pre w') (h : KindAll kf first caps w.heap.size Pre most xs) (r1 : List (List Int)) (r2 : Bool) (hr1 : r1 = if (xs.length : Int) ≤ most then xs else []) (hr2 : r2 = decide ((xs.length : Int) ≤ most)) :
    Calls Try.prog 59 #[.func (.func kf) first caps, .int .i64 most] w fun e w' => ∃ v0_ : Value, e = .returned (.tuple #[v0_, .bool r2]) ∧ Kd.S (Kd.slice 3 (Kd.int .i64)) 25 w' w.heap.size (fun _ => True) v0_ r1 ∧ Below w.heap.size w w' := by
  have HF1 := Aside0.mk hf1
  have HF2 := Aside0.mk hf2
  have HF3 := Aside0.mk hf3
  have HP := Aside0.mk hP
  have H := Aside0.mk h
  clear hf1 hf2 hf3 hP h
  go_enter Try.func59, Try.ntmps59
  go_upto_region 2 with (fail)
  have hb1 : Below w.heap.size w ((w.alloc (.cells #[.int .i64 most] 3)).alloc (.cells #[.slice none 0 0] 36)) := below_alloc (below_alloc (Below.refl _ _) _) _
  have hm1 : ((w.alloc (.cells #[.int .i64 most] 3)).alloc (.cells #[.slice none 0 0] 36)).heap[w.heap.size]? = some (.cells #[.int .i64 most] 3 (0, 0)) := heap_alloc2_old w _ _
  have ho1 : ((w.alloc (.cells #[.int .i64 most] 3)).alloc (.cells #[.slice none 0 0] 36)).heap[w.heap.size + 1]? = some (.cells #[.slice none 0 0] 36 (0, 0)) := heap_alloc2_new w _ _
  have HB1 := Aside0.mk hb1
  have HM1 := Aside0.mk hm1
  have HO1 := Aside0.mk ho1
  clear hb1 hm1 ho1
  generalize ((w.alloc (.cells #[.int .i64 most] 3)).alloc (.cells #[.slice none 0 0] 36)) = w2 at HB1 HM1 HO1 ⊢
  have HCALL := Aside0.mk (H.out (w.heap.size + 1) w.heap.size w2 (HP.out w2 HB1.out) HB1.out.size (Nat.le_succ _) (Nat.le_refl _) (blk_lt HO1.out) (blk_lt HM1.out) (fun X w' hb hX => ⟨⟨_, blk_below HO1.out hb, Kd.S_nil _ _ _ _ _⟩, blk_below HM1.out hb, Nat.le_succ _, Nat.le_refl _, fun k hk => (hX k hk).2⟩))
  by_cases hle : (xs.length : Int) ≤ most
  · have b1 : decide (most < (xs.length : Int)) = false := decide_eq_false (by omega)
    rw [if_pos hle] at hr1
    rw [decide_eq_true hle] at hr2
    subst hr1
    subst hr2
    clear hle
    go_wp2_with (first | ((with_reducible refine gate_value (p := 7) rfl ?_); refine goesW_ (some 9) rfl rfl HF1.out HF2.out HF3.out #[.func (.func 83) #[] #[.pointer (some ⟨w.heap.size + 1, 0, none⟩), .pointer (some ⟨w.heap.size, 0, none⟩)]] rfl (by first | rfl | (simp [Act.eval]; done)) (by (try simp only [List.map_toArray, List.map_cons, List.map_nil]); first | done | rfl) ?_; refine HCALL.out.mono ?_; rintro e w3 ⟨rfl, ⟨X, hX, hI⟩, hB⟩; refine ⟨_, rfl, ?_⟩; obtain ⟨⟨v3, ho, hs⟩, hm, _, _, _⟩ := hI; obtain ⟨A3, c3, e3⟩ := Kd.S_slice hs; subst e3; have hc1 := cell_of_one ho; have hc2 := cell_of_one hm; have HS3 := Aside0.mk hs; have HB3 := Aside0.mk hB; clear hX ho hs hm hB))
    go_ret2
    exact ⟨_, rfl, Kd.S_mono HS3.out (fun _ _ => trivial), HB1.out.trans HB3.out⟩
  · have b1 : decide (most < (xs.length : Int)) = true := decide_eq_true (by omega)
    rw [if_neg hle] at hr1
    rw [decide_eq_false hle] at hr2
    subst hr1
    subst hr2
    clear hle
    go_wp2_with (first | ((with_reducible refine gate_value (p := 7) rfl ?_); refine goesW_ (some 9) rfl rfl HF1.out HF2.out HF3.out #[.func (.func 83) #[] #[.pointer (some ⟨w.heap.size + 1, 0, none⟩), .pointer (some ⟨w.heap.size, 0, none⟩)]] rfl (by first | rfl | (simp [Act.eval]; done)) (by (try simp only [List.map_toArray, List.map_cons, List.map_nil]); first | done | rfl) ?_; refine HCALL.out.mono ?_; rintro e w3 ⟨rfl, ⟨X, hX, hI⟩, hB⟩; refine ⟨_, rfl, ?_⟩; obtain ⟨⟨v3, ho, hs⟩, hm, _, _, _⟩ := hI; obtain ⟨A3, c3, e3⟩ := Kd.S_slice hs; subst e3; have hc1 := cell_of_one ho; have hc2 := cell_of_one hm; have HS3 := Aside0.mk hs; have HB3 := Aside0.mk hB; clear hX ho hs hm hB))
    go_ret2
    exact ⟨_, rfl, Kd.S_nil _ _ _ _ _, HB1.out.trans HB3.out⟩


end Go.Proofs.Ytmhcgihkijiecaa.Fn
namespace Go.Proofs.Ytmhcgihkijiecaa.Fn
open Go.RowKit Go.Proofs.YtmhcgihkijiecaaW.PrintWords Go.Proofs.YtmhcgihkijiecaaW.PrintLast Go.Proofs.YtmhcgihkijiecaaW.PrintMore
attribute [local go_sem] max2_int min2_int max_two min_two max_three min_three max_four min_four   -- for this text's walks alone
set_option linter.unusedVariables false
set_option linter.unusedSimpArgs false

/-! ### impl_AllExtended: function 30 (given) -/
def impl_AllExtended.f (a0 : Int) (a1 : Int) : Option (List (List Int) × Bool) := (extRun a0 a1 (eachAll 1073741824) []).bind fun p => some (if (p.1.length : Int) ≤ 1073741824 then p.1 else [], extOk a0 a1)
/-- A kind, as kind.all asks for it. -/
theorem kind_all_of {kf : FuncId} {kcaps : Array Value} {Pre : World → Prop} {run : {σ : Type} → (σ → List Int → Option (σ × Bool)) → σ → Option (σ × Bool)} (base : Nat) (h : KindOk kf kcaps Pre run) (most : Int) (xs : List (List Int)) (b : Bool) (hr : run (eachAll most) [] = some (xs, b)) : KindAll kf #[] kcaps base Pre most xs := by
  intro bo bm w hP hb hb1 hb2 hlo hlm hI
  have := h (I := fun X => AllI base bo bm most X) [] xs b w hP hb (fun X hX => all1_ok hX hlo hlm) hI hr
  simpa using this
set_option maxHeartbeats 8000000 in
set_option maxRecDepth 100000 in
theorem impl_AllExtended.calls (a0 : Int) (a1 : Int) (r1 : List (List Int)) (r2 : Bool) (w : World) (h : impl_AllExtended.f a0 a1 = some (r1, r2)) :
    Calls Try.prog 30 #[.int .i64 a0, .int .i64 a1] w fun e w' => ∃ v0_ : Value, e = .returned (.tuple #[v0_, .bool r2]) ∧ Kd.S (Kd.slice 3 (Kd.int .i64)) 25 w' w.heap.size (fun _ => True) v0_ r1 ∧ Below w.heap.size w w' := by
  obtain ⟨⟨xs, b⟩, hrun, h⟩ := Option.bind_eq_some_iff.1 h
  obtain ⟨hr1, rfl⟩ := Prod.mk.inj (Option.some.inj h)
  have HRUN := Aside0.mk hrun
  have HR1 := Aside0.mk hr1.symm
  clear h hrun hr1
  go_enter Try.func30, Try.ntmps30
  go_wp2_with (first | ((with_reducible refine gate_callee (f := 55) rfl ?_); refine goesL_ (some 13) rfl rfl Try.func55 (by kernel_rfl) rfl #[.int .i64 a0, .int .i64 a1] rfl (by (try simp only [List.map_toArray, List.map_cons, List.map_nil]); first | done | rfl) ?_; refine (impl_extendedKind_call a0 a1 w).mono ?_; rintro e w1 ⟨kf, kcaps, Pre, rfl, hF1, hP1, hK1, hB1⟩; refine ⟨_, rfl, ?_⟩; have HF1 := Aside0.mk hF1; have HP1 := Aside0.mk hP1; have HK1 := Aside0.mk @hK1; have HB1 := Aside0.mk hB1; clear hF1 hP1 hK1 hB1) | ((with_reducible refine gate_callee (f := 59) rfl ?_); refine goesL_ (some 18) rfl rfl Try.func59 (by kernel_rfl) rfl #[.func (.func kf) #[] kcaps, .int .i64 1073741824] rfl (by (try simp only [List.map_toArray, List.map_cons, List.map_nil]); first | done | rfl) ?_; refine (kind_all_call w1 HF1.out.fn.choose_spec.1 HF1.out.fn.choose_spec.2.1 HF1.out.fn.choose_spec.2.2 HP1.out (kind_all_of w1.heap.size HK1.out 1073741824 xs b HRUN.out) r1 (decide ((xs.length : Int) ≤ 1073741824)) HR1.out rfl).mono ?_; rintro e w2 ⟨v2, rfl, hS2, hB2⟩; refine ⟨_, rfl, ?_⟩; have HS2 := Aside0.mk hS2; have HB2 := Aside0.mk hB2; clear hS2 hB2))
  go_ret2
  exact ⟨_, rfl, Kd.S_lower HS2.out HB1.out.size, HB1.out.trans (HB2.out.mono HB1.out.size)⟩


end Go.Proofs.Ytmhcgihkijiecaa.Fn
namespace Go.Proofs.Ytmhcgihkijiecaa.Fn
open Go.RowKit Go.Proofs.YtmhcgihkijiecaaW.PrintWords Go.Proofs.YtmhcgihkijiecaaW.PrintLast Go.Proofs.YtmhcgihkijiecaaW.PrintMore
attribute [local go_sem] max2_int min2_int max_two min_two max_three min_three max_four min_four   -- for this text's walks alone
set_option linter.unusedVariables false
set_option linter.unusedSimpArgs false

/-! ### spec_l1In: function 62 -/
def spec_l1In.f (a0 : Int) (a1 : Int) (a2 : Int) : Option (Bool) := if a0 ≥ a1 then (some (decide (a0 ≤ a2))) else (some false)
set_option maxHeartbeats 8000000 in
set_option maxRecDepth 100000 in
theorem spec_l1In.calls (a0 : Int) (a1 : Int) (a2 : Int) (r : Bool) (w : World) (h : spec_l1In.f a0 a1 a2 = some r) :
    Calls Try.prog 62 #[.int .i64 a0, .int .i64 a1, .int .i64 a2] w fun e w' => e = .returned (.bool r) ∧ Drawn0 w w' := by
  have H : (if a0 ≥ a1 then (some (decide (a0 ≤ a2))) else (some false)) = some r := h
  clear h
  by_cases c4 : a0 ≥ a1
  · rw [if_pos c4] at H
    have c4b0 : decide (a1 ≤ a0) = true := decide_eq_true c4
    clear c4
    obtain rfl := Option.some.inj H
    go_enter Try.func62, Try.ntmps62
    go_wp2
    go_ret
    exact ⟨by first | rfl | (simp; done) | (simp [*]; done), by repeat (first | exact Drawn0.refl _ | apply Drawn0.step)⟩
  · rw [if_neg c4] at H
    have c4b0 : decide (a1 ≤ a0) = false := decide_eq_false c4
    clear c4
    obtain rfl := Option.some.inj H
    go_enter Try.func62, Try.ntmps62
    go_wp2
    go_ret
    exact ⟨by first | rfl | (simp; done) | (simp [*]; done), by repeat (first | exact Drawn0.refl _ | apply Drawn0.step)⟩


end Go.Proofs.Ytmhcgihkijiecaa.Fn
namespace Go.Proofs.Ytmhcgihkijiecaa.Fn
open Go.RowKit Go.Proofs.YtmhcgihkijiecaaW.PrintWords Go.Proofs.YtmhcgihkijiecaaW.PrintLast Go.Proofs.YtmhcgihkijiecaaW.PrintMore
attribute [local go_sem] max2_int min2_int max_two min_two max_three min_three max_four min_four   -- for this text's walks alone
set_option linter.unusedVariables false
set_option linter.unusedSimpArgs false

/-! ### spec_hoAsked: function 46 -/
def spec_hoAsked.f (a0 : Int) (a1 : Int) (a2 : Int) : Option (Bool) := (spec_l1In.f a0 1 a1).bind fun t101 => (if t101 = true then ((spec_l1In.f a2 0 (wrap64 (2 * a0))).bind fun t102 => (some t102)) else (some false))
set_option maxHeartbeats 8000000 in
set_option maxRecDepth 100000 in
theorem spec_hoAsked.calls (a0 : Int) (a1 : Int) (a2 : Int) (r : Bool) (w : World) (h : spec_hoAsked.f a0 a1 a2 = some r) :
    Calls Try.prog 46 #[.int .i64 a0, .int .i64 a1, .int .i64 a2] w fun e w' => e = .returned (.bool r) ∧ Drawn0 w w' := by
  have H : ((spec_l1In.f a0 1 a1).bind fun t101 => (if t101 = true then ((spec_l1In.f a2 0 (wrap64 (2 * a0))).bind fun t102 => (some t102)) else (some false))) = some r := h
  clear h
  replace H := Option.bind_eq_some_iff.mp H
  obtain ⟨t101, A40, H⟩ := H
  replace H : (if t101 = true then ((spec_l1In.f a2 0 (wrap64 (2 * a0))).bind fun t102 => (some t102)) else (some false)) = some r := H
  have A4 := Aside0.mk A40
  clear A40
  by_cases c5 : t101 = true
  · subst c5
    have H1 : ((spec_l1In.f a2 0 (wrap64 (2 * a0))).bind fun t102 => (some t102)) = some r := by rw [if_pos rfl] at H; exact H
    clear H
    have H := H1
    clear H1
    replace H := Option.bind_eq_some_iff.mp H
    obtain ⟨t102, A60, H⟩ := H
    replace H : (some t102) = some r := H
    have A6 := Aside0.mk A60
    clear A60
    obtain rfl := Option.some.inj H
    go_enter Try.func46, Try.ntmps46
    go_wp2_with (first | ((with_reducible refine gate_callee (f := 62) rfl ?_); refine goesL_ (some 9) rfl rfl Try.func62 (by kernel_rfl) rfl #[.int .i64 a0, .int .i64 1, .int .i64 a1] rfl (by (try simp only [List.map_toArray, List.map_cons, List.map_nil]); first | done | rfl | (simp only [List.length_drop, List.length_take]; rfl)) ?_; (with_reducible refine (spec_l1In.calls a0 1 a1 true _ A4.out).mono ?_); rintro e w' ⟨rfl, ⟨nd, rfl⟩⟩; refine ⟨_, rfl, ?_⟩) | (go_at_call 62; (with_reducible refine (spec_l1In.calls a2 0 (wrap64 (2 * a0)) t102 _ A6.out).mono ?_); rintro e w' ⟨rfl, ⟨nd, rfl⟩⟩))
    go_ret
    exact ⟨by first | rfl | (simp; done) | (simp [*]; done), by repeat (first | exact Drawn0.refl _ | apply Drawn0.step)⟩
  · replace c5 := Bool.eq_false_iff.mpr c5
    subst c5
    have H1 : (some false) = some r := by rw [if_neg (show ¬ (false = true) by decide)] at H; exact H
    clear H
    have H := H1
    clear H1
    obtain rfl := Option.some.inj H
    go_enter Try.func46, Try.ntmps46
    go_wp2_with (first | ((with_reducible refine gate_callee (f := 62) rfl ?_); refine goesL_ (some 9) rfl rfl Try.func62 (by kernel_rfl) rfl #[.int .i64 a0, .int .i64 1, .int .i64 a1] rfl (by (try simp only [List.map_toArray, List.map_cons, List.map_nil]); first | done | rfl | (simp only [List.length_drop, List.length_take]; rfl)) ?_; (with_reducible refine (spec_l1In.calls a0 1 a1 false _ A4.out).mono ?_); rintro e w' ⟨rfl, ⟨nd, rfl⟩⟩; refine ⟨_, rfl, ?_⟩))
    go_ret
    exact ⟨by first | rfl | (simp; done) | (simp [*]; done), by repeat (first | exact Drawn0.refl _ | apply Drawn0.step)⟩


end Go.Proofs.Ytmhcgihkijiecaa.Fn
namespace Go.Proofs.Ytmhcgihkijiecaa.Fn
open Go.RowKit Go.Proofs.YtmhcgihkijiecaaW.PrintWords Go.Proofs.YtmhcgihkijiecaaW.PrintLast Go.Proofs.YtmhcgihkijiecaaW.PrintMore
attribute [local go_sem] max2_int min2_int max_two min_two max_three min_three max_four min_four   -- for this text's walks alone
set_option linter.unusedVariables false
set_option linter.unusedSimpArgs false

/-! ### spec_seAll: function 54 (given) -/
/-! ### the reference's search from its beginning -/
def SeRet (from_ to_ shift hole most : Int) (p : Nat) (s' : SeSt) (w : World) (e : Ending) (w' : World) : Prop := ∃ (gS gr : Nat), e = .returned (.pointer (some ⟨gS, 0, none⟩)) ∧ w.heap.size ≤ gS ∧ w.heap.size ≤ gr ∧ gS ≠ gr ∧ SeI w.heap.size gS gr from_ to_ shift hole most (List.replicate p 0) 0 s' w' ∧ Below w.heap.size w w'
set_option maxHeartbeats 8000000 in
set_option maxRecDepth 100000 in
theorem seAll_hole (from_ to_ shift hole most : Int) (p : Nat) (s' : SeSt) (w : World) (hfr : 1 ≤ from_ ∧ from_ ≤ 20) (hto : 0 ≤ to_ ∧ to_ ≤ 40) (hs : 0 ≤ shift ∧ shift ≤ 1) (hft : from_ ≤ to_) (hh : 0 ≤ hole) (hp : (p : Int) = 2 * (to_ - from_ + 1) + 1) (h : seF from_ to_ shift hole most (p + 1) (0, []) (List.replicate p 0) 0 = some s') :
    Calls Try.prog 54 #[.int .i64 from_, .int .i64 to_, .int .i64 shift, .int .i64 hole, .int .i64 most] w (SeRet from_ to_ shift hole most p s' w) := by
  have HPL := Aside0.mk (show p ≤ 100 by omega)
  have HP := Aside0.mk (show p ≤ 1000 by omega)
  have HF := Aside0.mk (show (1 ≤ from_ ∧ from_ ≤ 20) ∧ (0 ≤ to_ ∧ to_ ≤ 40) ∧ (0 ≤ shift ∧ shift ≤ 1) ∧ 0 < p from ⟨hfr, hto, hs, by omega⟩)
  have H := Aside0.mk h
  have HW := Aside0.mk (show wrap64 (wrap64 (2 * wrap64 (wrap64 (to_ - from_) + 1)) + 1) = (p : Int) by rw [wrap_in (n := to_ - from_) (by omega) (by omega), wrap_in (n := to_ - from_ + 1) (by omega) (by omega), wrap_in (n := 2 * (to_ - from_ + 1)) (by omega) (by omega), wrap_in (by omega) (by omega)]; omega)
  have b1 : decide (0 ≤ hole) = true := decide_eq_true hh
  clear h hs hft hp hh hfr hto
  go_enter Try.func54, Try.ntmps54
  go_wp2_with (first | ((with_reducible refine gate_dst (N := 23) rfl ?_); refine IB_make_event (N := 23) (x := .tmp 22) (y := .tmp 22) (n := p) ?hg ?hd ?ho ?hx ?hy HP.out ?_; (case hg => rfl); (case hd => rfl); (case ho => rfl); (case hx => exact congrArg (Value.int .i64) HW.out); (case hy => exact congrArg (Value.int .i64) HW.out); intro gr hgr w1 hI1 hB1; have HGR := Aside0.mk hgr; have HI1 := Aside0.mk hI1; have HB1 := Aside0.mk hB1; clear hgr hI1 hB1) | ((with_reducible refine gate_dst (N := 30) rfl ?_); refine box_event ?hg (N := 30) ?hd (cs := #[.slice (some ⟨gr, 0, none⟩) p p, .int .i64 from_, .int .i64 to_, .int .i64 shift, .int .i64 hole, .int .i64 0, .int .i64 most, .int .i64 0, .slice none 0 0]) (t := 50) ?hr ?_; (case hd => rfl); (case hg => rfl); (case hr => first | (go_simp; done) | (go_simp; rfl)); intro gS hg w2 hbox hb; have BK := Aside0.mk hbox; have HB2 := Aside0.mk hb; have GS := Aside0.mk hg; clear hg hbox hb) | ((with_reducible refine gate_callee (f := 77) rfl ?_); have HSI := Aside0.mk (show SeI w.heap.size gS gr from_ to_ shift hole most (List.replicate p 0) 0 (0, []) w2 from ⟨⟨_, by rw [List.length_replicate]; exact BK.out, Kd.S_nil _ _ _ _ _⟩, IB_below HI1.out HB2.out⟩); have HBB := Aside0.mk (show Below w.heap.size w w2 from HB1.out.trans (HB2.out.mono HB1.out.size)); have HNE := Aside0.mk (show gS ≠ gr from fun e => by have h1 := blk_lt HI1.out; have h2 := GS.out; omega); have HG1 := Aside0.mk (show w.heap.size ≤ gS by have h1 := HB1.out.size; have h2 := GS.out; omega); have HG2 := Aside0.mk (show w.heap.size ≤ gr by have h2 := HGR.out; omega); have HCALL := Aside0.mk (look_call HF.out.1 HF.out.2.1 HF.out.2.2.1 HNE.out HG1.out HG2.out (p + 1) (0, []) s' (List.replicate p 0) 0 w2 HBB.out.size (by rw [List.length_replicate]; exact HF.out.2.2.2) (by rw [List.length_replicate]; have := HPL.out; omega) (by decide) HSI.out H.out); refine goesL_ (some 32) rfl rfl Try.func77 (by kernel_rfl) rfl #[.pointer (some ⟨gS, 0, none⟩)] rfl (by (try simp only [List.map_toArray, List.map_cons, List.map_nil]); first | done | rfl) ?_; refine HCALL.out.mono ?_; rintro e w3 ⟨rfl, hI3, hB3⟩; refine ⟨_, rfl, ?_⟩; have HI3 := Aside0.mk hI3; have HB3 := Aside0.mk hB3; clear hI3 hB3 HCALL))
  go_ret
  exact ⟨gS, gr, rfl, HG1.out, HG2.out, HNE.out, HI3.out, HBB.out.trans HB3.out⟩
set_option maxHeartbeats 8000000 in
set_option maxRecDepth 100000 in
theorem seAll_none (from_ to_ shift hole most : Int) (p : Nat) (s' : SeSt) (w : World) (hfr : 1 ≤ from_ ∧ from_ ≤ 20) (hto : 0 ≤ to_ ∧ to_ ≤ 40) (hs : 0 ≤ shift ∧ shift ≤ 1) (hft : from_ ≤ to_) (hh : hole < 0) (hp : (p : Int) = 2 * (to_ - from_ + 1)) (h : seF from_ to_ shift hole most (p + 1) (0, []) (List.replicate p 0) 0 = some s') :
    Calls Try.prog 54 #[.int .i64 from_, .int .i64 to_, .int .i64 shift, .int .i64 hole, .int .i64 most] w (SeRet from_ to_ shift hole most p s' w) := by
  have HPL := Aside0.mk (show p ≤ 100 by omega)
  have HP := Aside0.mk (show p ≤ 1000 by omega)
  have HF := Aside0.mk (show (1 ≤ from_ ∧ from_ ≤ 20) ∧ (0 ≤ to_ ∧ to_ ≤ 40) ∧ (0 ≤ shift ∧ shift ≤ 1) ∧ 0 < p from ⟨hfr, hto, hs, by omega⟩)
  have H := Aside0.mk h
  have HW := Aside0.mk (show wrap64 (2 * wrap64 (wrap64 (to_ - from_) + 1)) = (p : Int) by rw [wrap_in (n := to_ - from_) (by omega) (by omega), wrap_in (n := to_ - from_ + 1) (by omega) (by omega), wrap_in (by omega) (by omega)]; omega)
  have b1 : decide (0 ≤ hole) = false := decide_eq_false (by omega)
  clear h hs hft hp hh hfr hto
  go_enter Try.func54, Try.ntmps54
  go_wp2_with (first | ((with_reducible refine gate_dst (N := 23) rfl ?_); refine IB_make_event (N := 23) (x := .tmp 22) (y := .tmp 22) (n := p) ?hg ?hd ?ho ?hx ?hy HP.out ?_; (case hg => rfl); (case hd => rfl); (case ho => rfl); (case hx => exact congrArg (Value.int .i64) HW.out); (case hy => exact congrArg (Value.int .i64) HW.out); intro gr hgr w1 hI1 hB1; have HGR := Aside0.mk hgr; have HI1 := Aside0.mk hI1; have HB1 := Aside0.mk hB1; clear hgr hI1 hB1) | ((with_reducible refine gate_dst (N := 30) rfl ?_); refine box_event ?hg (N := 30) ?hd (cs := #[.slice (some ⟨gr, 0, none⟩) p p, .int .i64 from_, .int .i64 to_, .int .i64 shift, .int .i64 hole, .int .i64 0, .int .i64 most, .int .i64 0, .slice none 0 0]) (t := 50) ?hr ?_; (case hd => rfl); (case hg => rfl); (case hr => first | (go_simp; done) | (go_simp; rfl)); intro gS hg w2 hbox hb; have BK := Aside0.mk hbox; have HB2 := Aside0.mk hb; have GS := Aside0.mk hg; clear hg hbox hb) | ((with_reducible refine gate_callee (f := 77) rfl ?_); have HSI := Aside0.mk (show SeI w.heap.size gS gr from_ to_ shift hole most (List.replicate p 0) 0 (0, []) w2 from ⟨⟨_, by rw [List.length_replicate]; exact BK.out, Kd.S_nil _ _ _ _ _⟩, IB_below HI1.out HB2.out⟩); have HBB := Aside0.mk (show Below w.heap.size w w2 from HB1.out.trans (HB2.out.mono HB1.out.size)); have HNE := Aside0.mk (show gS ≠ gr from fun e => by have h1 := blk_lt HI1.out; have h2 := GS.out; omega); have HG1 := Aside0.mk (show w.heap.size ≤ gS by have h1 := HB1.out.size; have h2 := GS.out; omega); have HG2 := Aside0.mk (show w.heap.size ≤ gr by have h2 := HGR.out; omega); have HCALL := Aside0.mk (look_call HF.out.1 HF.out.2.1 HF.out.2.2.1 HNE.out HG1.out HG2.out (p + 1) (0, []) s' (List.replicate p 0) 0 w2 HBB.out.size (by rw [List.length_replicate]; exact HF.out.2.2.2) (by rw [List.length_replicate]; have := HPL.out; omega) (by decide) HSI.out H.out); refine goesL_ (some 32) rfl rfl Try.func77 (by kernel_rfl) rfl #[.pointer (some ⟨gS, 0, none⟩)] rfl (by (try simp only [List.map_toArray, List.map_cons, List.map_nil]); first | done | rfl) ?_; refine HCALL.out.mono ?_; rintro e w3 ⟨rfl, hI3, hB3⟩; refine ⟨_, rfl, ?_⟩; have HI3 := Aside0.mk hI3; have HB3 := Aside0.mk hB3; clear hI3 hB3 HCALL))
  go_ret
  exact ⟨gS, gr, rfl, HG1.out, HG2.out, HNE.out, HI3.out, HBB.out.trans HB3.out⟩


end Go.Proofs.Ytmhcgihkijiecaa.Fn
namespace Go.Proofs.Ytmhcgihkijiecaa.Fn
open Go.RowKit Go.Proofs.YtmhcgihkijiecaaW.PrintWords Go.Proofs.YtmhcgihkijiecaaW.PrintLast Go.Proofs.YtmhcgihkijiecaaW.PrintMore
attribute [local go_sem] max2_int min2_int max_two min_two max_three min_three max_four min_four   -- for this text's walks alone
set_option linter.unusedVariables false
set_option linter.unusedSimpArgs false

/-! ### spec_AllExtended: function 29 (given) -/
theorem all_ask_below {w w' : World} (h : Drawn0 w w') : Below w.heap.size w w' := by
  obtain ⟨n, rfl⟩ := h
  exact pw_below_drewN (Below.refl _ _) n
def spec_AllExtended.f (a0 : Int) (a1 : Int) : Option (List (List Int) × Bool) := (spec_hoAsked.f a0 7 a1).bind fun t => if t = true then (if 1 ≤ a0 ∧ a0 ≤ 7 ∧ 0 ≤ a1 then (seF 1 a0 0 a1 100000 (2 * a0.toNat + 1 + 1) (0, []) (List.replicate (2 * a0.toNat + 1) 0) 0).bind fun s => some (s.2, true) else none) else some ([], false)
set_option maxHeartbeats 8000000 in
set_option maxRecDepth 100000 in
theorem spec_AllExtended.calls (a0 : Int) (a1 : Int) (r1 : List (List Int)) (r2 : Bool) (w : World) (h : spec_AllExtended.f a0 a1 = some (r1, r2)) :
    Calls Try.prog 29 #[.int .i64 a0, .int .i64 a1] w fun e w' => ∃ v0_ : Value, e = .returned (.tuple #[v0_, .bool r2]) ∧ Kd.S (Kd.slice 3 (Kd.int .i64)) 25 w' w.heap.size (fun _ => True) v0_ r1 ∧ Below w.heap.size w w' := by
  obtain ⟨t1, hA, h⟩ := Option.bind_eq_some_iff.1 h
  have A1 := Aside0.mk hA
  cases t1 with
  | false =>
    rw [if_neg (by decide)] at h
    obtain ⟨rfl, rfl⟩ := Prod.mk.inj (Option.some.inj h)
    clear hA h
    go_enter Try.func29, Try.ntmps29
    go_wp2_with (first | ((with_reducible refine gate_callee (f := 46) rfl ?_); refine goesL_ (some 8) rfl rfl Try.func46 (by kernel_rfl) rfl #[.int .i64 a0, .int .i64 7, .int .i64 a1] rfl (by (try simp only [List.map_toArray, List.map_cons, List.map_nil]); first | done | rfl) ?_; refine (spec_hoAsked.calls a0 7 a1 false w A1.out).mono ?_; rintro e w1 ⟨rfl, hb1⟩; refine ⟨_, rfl, ?_⟩; have HB1 := Aside0.mk (all_ask_below hb1); clear hb1))
    go_ret2
    exact ⟨_, rfl, Kd.S_nil _ _ _ _ _, HB1.out⟩
  | true =>
    rw [if_pos rfl] at h
    split at h
    case isFalse => cases h
    rename_i hcond
    obtain ⟨s', hrun, h⟩ := Option.bind_eq_some_iff.1 h
    obtain ⟨rfl, rfl⟩ := Prod.mk.inj (Option.some.inj h)
    clear h
    have HALL := Aside0.mk (fun w1 : World => seAll_hole 1 a0 0 a1 100000 (2 * a0.toNat + 1) s' w1 (by omega) (by omega) (by omega) (by omega) (by omega) (by omega) hrun)
    clear hA hrun hcond
    go_enter Try.func29, Try.ntmps29
    go_wp2_with (first | ((with_reducible refine gate_callee (f := 46) rfl ?_); refine goesL_ (some 8) rfl rfl Try.func46 (by kernel_rfl) rfl #[.int .i64 a0, .int .i64 7, .int .i64 a1] rfl (by (try simp only [List.map_toArray, List.map_cons, List.map_nil]); first | done | rfl) ?_; refine (spec_hoAsked.calls a0 7 a1 true w A1.out).mono ?_; rintro e w1 ⟨rfl, hb1⟩; refine ⟨_, rfl, ?_⟩; have HB1 := Aside0.mk (all_ask_below hb1); clear hb1) | ((with_reducible refine gate_callee (f := 54) rfl ?_); refine goesL_ (some 12) rfl rfl Try.func54 (by kernel_rfl) rfl #[.int .i64 1, .int .i64 a0, .int .i64 0, .int .i64 a1, .int .i64 100000] rfl (by (try simp only [List.map_toArray, List.map_cons, List.map_nil]); first | done | rfl) ?_; refine (HALL.out w1).mono ?_; rintro e w2 ⟨gS, gr, rfl, hgS, hgr, hne, hI2, hB2⟩; refine ⟨_, rfl, ?_⟩; have HGS := Aside0.mk hgS; have HGR := Aside0.mk hgr; have HNE := Aside0.mk hne; have HI2 := Aside0.mk hI2; have HB2 := Aside0.mk hB2; clear hgS hgr hne hI2 hB2; obtain ⟨v8, ho8, hs8⟩ := HI2.out.out; obtain ⟨A8, c8, e8⟩ := Kd.S_slice hs8; subst e8; have HS8 := Aside0.mk hs8; have hc8 := blk_cell ho8 8; simp only [List.getElem?_toArray, List.getElem?_cons_zero, List.getElem?_cons_succ] at hc8; clear ho8 hs8))
    go_ret2
    exact ⟨_, rfl, Kd.S_mono (Kd.S_lower HS8.out HB1.out.size) (fun _ _ => trivial), HB1.out.trans (HB2.out.mono HB1.out.size)⟩


end Go.Proofs.Ytmhcgihkijiecaa.Fn
namespace Go.Proofs.Ytmhcgihkijiecaa.Fn
open Go.RowKit Go.Proofs.YtmhcgihkijiecaaW.PrintWords Go.Proofs.YtmhcgihkijiecaaW.PrintLast Go.Proofs.YtmhcgihkijiecaaW.PrintMore
attribute [local go_sem] max2_int min2_int max_two min_two max_three min_three max_four min_four   -- for this text's walks alone
set_option linter.unusedVariables false
set_option linter.unusedSimpArgs false

/-! ### laws_eqIntS: function 20 -/
def laws_eqIntS.l0 : Nat → List Int → List Int → Int → Option (Bool)
  | 0, _, _, _ => none
  | k + 1, x0, x1, x5 => if x5 < (x0.length : Int) then (if 0 ≤ x5 then (if x5 < (x1.length : Int) then (if (rd x0 x5) = (rd x1 x5) then (laws_eqIntS.l0 k x0 x1 (wrap64 (x5 + 1))) else (some false)) else (none)) else (none)) else (some true)
def laws_eqIntS.f (k : Nat) (l0 : List Int) (l1 : List Int) : Option (Bool) := if (l0.length : Int) = (l1.length : Int) then (laws_eqIntS.l0 k l0 l1 0) else (some false)
theorem laws_eqIntS.mono_l : ∀ k, (∀ y0 y1 y2, LeO (laws_eqIntS.l0 k y0 y1 y2) (laws_eqIntS.l0 (k + 1) y0 y1 y2))
  | 0 => fun _ _ _ r h => by simp [laws_eqIntS.l0] at h
  | k + 1 => by
    have ih0 := laws_eqIntS.mono_l k
    · intro y0 y1 y2
      unfold laws_eqIntS.l0
      repeat' first
      | (with_reducible exact ih0 _ _ _)
      | (with_reducible exact LeO.refl _)
      | (with_reducible exact LeO.none _)
      | (with_reducible refine LeO.ite ?_ ?_)
      | (with_reducible refine LeO.bind ?_ (fun _ => ?_))
      | exact ih0 _ _ _
      | exact LeO.none _
      | refine LeO.ite ?_ ?_
      | refine LeO.bind ?_ (fun _ => ?_)
theorem laws_eqIntS.mono : ∀ a0 a1 k, LeO (laws_eqIntS.f k a0 a1) (laws_eqIntS.f (k + 1) a0 a1) := by
  intro a0 a1 k
  have ih0 := laws_eqIntS.mono_l k
  unfold laws_eqIntS.f
  repeat' first
      | (with_reducible exact ih0 _ _ _)
      | (with_reducible exact LeO.refl _)
      | (with_reducible exact LeO.none _)
      | (with_reducible refine LeO.ite ?_ ?_)
      | (with_reducible refine LeO.bind ?_ (fun _ => ?_))
      | exact ih0 _ _ _
      | exact LeO.none _
      | refine LeO.ite ?_ ?_
      | refine LeO.bind ?_ (fun _ => ?_)
set_option maxHeartbeats 8000000 in
set_option maxRecDepth 100000 in
theorem laws_eqIntS.calls (k : Nat) (A0 : Option Addr) (c0 : Nat) (l0 : List Int) (A1 : Option Addr) (c1 : Nat) (l1 : List Int) (r : Bool) (w : World) (hr0 : Kd.C (Kd.int .i64) w A0 l0.length l0) (hc0 : l0.length ≤ c0) (hr1 : Kd.C (Kd.int .i64) w A1 l1.length l1) (hc1 : l1.length ≤ c1) (h : laws_eqIntS.f k l0 l1 = some r) :
    Calls Try.prog 20 #[.slice A0 l0.length c0, .slice A1 l1.length c1] w fun e w' => e = .returned (.bool r) ∧ Drawn0 w w' := by
  have HR0 := Aside0.mk hr0
  have HC0 := Aside0.mk hc0
  clear hr0 hc0
  have HR1 := Aside0.mk hr1
  have HC1 := Aside0.mk hc1
  clear hr1 hc1
  have H : (if (l0.length : Int) = (l1.length : Int) then (laws_eqIntS.l0 k l0 l1 0) else (some false)) = some r := h
  clear h
  by_cases c3 : (l0.length : Int) = (l1.length : Int)
  · rw [if_pos c3] at H
    have c3b0 : ((l0.length : Int) == (l1.length : Int)) = true := beq_iff_eq.mpr c3
    have c3b1 : ((l0.length : Int) != (l1.length : Int)) = false := bne_eq_false_iff_eq.mpr c3
    have c3b2 : (l0.length == l1.length) = true := by first | simpa using c3 | (simp at c3 ⊢; omega)
    clear c3
    have H' := Aside0.mk H
    clear H
    go_enter Try.func20, Try.ntmps20
    go_wp2
    repeat (go_quiet (fail); try go_wp2)
    go_loopg [5] k (fun kq v5 w' => ∃ (x5_1 : Int), v5 = .int .i64 x5_1 ∧ Aside0 (laws_eqIntS.l0 kq l0 l1 x5_1 = some r) ∧ Aside0 (kq ≤ k) ∧ Drawn0 w w')
    case atStart => exact ⟨(0), (by first | rfl | (simp; done) | (simp [*]; done)), H', ⟨Nat.le_refl _⟩, by repeat (first | exact Drawn0.refl _ | apply Drawn0.step)⟩
    case round =>
      clear H'
      try clear c1
      try clear c2
      try clear p2
      try clear c3
      try clear c3b0
      try clear c3b1
      try clear c3b2
      obtain ⟨x5_1, rfl, HA, HK1, ⟨m1, rfl⟩⟩ := hrel
      cases gk with
      | zero => exact absurd HA.out (by simp [laws_eqIntS.l0])
      | succ k1 =>
        have H := HA.out
        clear HA
        simp only [laws_eqIntS.l0] at H
        by_cases c4 : x5_1 < (l0.length : Int)
        · rw [if_pos c4] at H
          have c4b0 : decide (x5_1 < (l0.length : Int)) = true := decide_eq_true c4
          clear c4
          by_cases c5 : 0 ≤ x5_1
          · rw [if_pos c5] at H
            have c5b0 : decide (0 ≤ x5_1) = true := decide_eq_true c5
            clear c5
            by_cases c6 : x5_1 < (l1.length : Int)
            · rw [if_pos c6] at H
              have c6b0 : decide (x5_1 < (l1.length : Int)) = true := decide_eq_true c6
              clear c6
              by_cases c7 : (rd l0 x5_1) = (rd l1 x5_1)
              · rw [if_pos c7] at H
                have c7b0 : ((rd l0 x5_1) == (rd l1 x5_1)) = true := beq_iff_eq.mpr c7
                have c7b1 : ((rd l0 x5_1) != (rd l1 x5_1)) = false := bne_eq_false_iff_eq.mpr c7
                clear c7
                have H' := Aside0.mk H
                clear H
                have p150 : 0 ≤ (x5_1 : Int) := of_decide_eq_true (by first | (with_reducible assumption) | assumption)
                have q150 : x5_1 < (l0.length : Int) := of_decide_eq_true (by first | (with_reducible assumption) | assumption)
                obtain ⟨ad150, e150, hx150_0⟩ := Kd.at_int HR0.out x5_1 p150 q150
                cases e150
                replace p150 := eq_true p150
                replace q150 := eq_true q150
                have p151 : 0 ≤ (x5_1 : Int) := of_decide_eq_true (by first | (with_reducible assumption) | assumption)
                have q151 : x5_1 < (l1.length : Int) := of_decide_eq_true (by first | (with_reducible assumption) | assumption)
                obtain ⟨ad151, e151, hx151_0⟩ := Kd.at_int HR1.out x5_1 p151 q151
                cases e151
                replace p151 := eq_true p151
                replace q151 := eq_true q151
                go_wp2
                repeat (go_quiet (fail); try go_wp2)
                go_roundg k1
                case measure => have := HK1.out; omega
                case rel => exact ⟨(wrap64 (x5_1 + 1)), (by first | rfl | (simp; done) | (simp [*]; done)), H', ⟨by have := HK1.out; omega⟩, by repeat (first | exact Drawn0.refl _ | apply Drawn0.step)⟩
              · rw [if_neg c7] at H
                have c7b0 : ((rd l0 x5_1) == (rd l1 x5_1)) = false := beq_eq_false_iff_ne.mpr c7
                have c7b1 : ((rd l0 x5_1) != (rd l1 x5_1)) = true := bne_iff_ne.mpr c7
                obtain rfl := Option.some.inj H
                have p150 : 0 ≤ (x5_1 : Int) := of_decide_eq_true (by first | (with_reducible assumption) | assumption)
                have q150 : x5_1 < (l0.length : Int) := of_decide_eq_true (by first | (with_reducible assumption) | assumption)
                obtain ⟨ad150, e150, hx150_0⟩ := Kd.at_int HR0.out x5_1 p150 q150
                cases e150
                replace p150 := eq_true p150
                replace q150 := eq_true q150
                have p151 : 0 ≤ (x5_1 : Int) := of_decide_eq_true (by first | (with_reducible assumption) | assumption)
                have q151 : x5_1 < (l1.length : Int) := of_decide_eq_true (by first | (with_reducible assumption) | assumption)
                obtain ⟨ad151, e151, hx151_0⟩ := Kd.at_int HR1.out x5_1 p151 q151
                cases e151
                replace p151 := eq_true p151
                replace q151 := eq_true q151
                go_wp2
                repeat (go_quiet (fail); try go_wp2)
                go_ret
                exact ⟨by first | rfl | (simp; done) | (simp [*]; done), by repeat (first | exact Drawn0.refl _ | apply Drawn0.step)⟩
            · rw [if_neg c6] at H
              exact absurd H (by simp)
          · rw [if_neg c5] at H
            exact absurd H (by simp)
        · rw [if_neg c4] at H
          have c4b0 : decide (x5_1 < (l0.length : Int)) = false := decide_eq_false c4
          clear c4
          obtain rfl := Option.some.inj H
          go_wp2
          repeat (go_quiet (fail); try go_wp2)
          go_ret
          exact ⟨by first | rfl | (simp; done) | (simp [*]; done), by repeat (first | exact Drawn0.refl _ | apply Drawn0.step)⟩
  · rw [if_neg c3] at H
    have c3b0 : ((l0.length : Int) == (l1.length : Int)) = false := beq_eq_false_iff_ne.mpr c3
    have c3b1 : ((l0.length : Int) != (l1.length : Int)) = true := bne_iff_ne.mpr c3
    have c3b2 : (l0.length == l1.length) = false := by first | simpa using c3 | (simp at c3 ⊢; omega)
    obtain rfl := Option.some.inj H
    go_enter Try.func20, Try.ntmps20
    go_wp2
    repeat (go_quiet (fail); try go_wp2)
    go_ret
    exact ⟨by first | rfl | (simp; done) | (simp [*]; done), by repeat (first | exact Drawn0.refl _ | apply Drawn0.step)⟩

noncomputable def laws_eqIntS.L0 (x0 : List Int) (x1 : List Int) (x5 : Int) : Option (Bool) := lim fun k => laws_eqIntS.l0 k x0 x1 x5
theorem laws_eqIntS.L0_lim (x0 : List Int) (x1 : List Int) (x5 : Int) : Lim (fun k => laws_eqIntS.l0 k x0 x1 x5) (laws_eqIntS.L0 x0 x1 x5) := Lim.of fun k => (laws_eqIntS.mono_l k) x0 x1 x5
noncomputable def laws_eqIntS.F (l0 : List Int) (l1 : List Int) : Option (Bool) := lim fun k => laws_eqIntS.f k l0 l1
theorem laws_eqIntS.F_lim (l0 : List Int) (l1 : List Int) : Lim (fun k => laws_eqIntS.f k l0 l1) (laws_eqIntS.F l0 l1) := Lim.of fun k => laws_eqIntS.mono l0 l1 k
theorem laws_eqIntS.L0_eq (x0 : List Int) (x1 : List Int) (x5 : Int) : laws_eqIntS.L0 x0 x1 x5 = (if x5 < (x0.length : Int) then (if 0 ≤ x5 then (if x5 < (x1.length : Int) then (if (rd x0 x5) = (rd x1 x5) then (laws_eqIntS.L0 x0 x1 (wrap64 (x5 + 1))) else (some false)) else (none)) else (none)) else (some true)) :=
  Lim.step (f := fun k => (if x5 < (x0.length : Int) then (if 0 ≤ x5 then (if x5 < (x1.length : Int) then (if (rd x0 x5) = (rd x1 x5) then (laws_eqIntS.l0 k x0 x1 (wrap64 (x5 + 1))) else (some false)) else (none)) else (none)) else (some true))) (laws_eqIntS.L0_lim x0 x1 x5) (fun k => by first | rfl | rw [laws_eqIntS.l0]) (by
    repeat' first
    | (with_reducible exact Lim.const _)
    | (with_reducible exact laws_eqIntS.L0_lim _ _ _)
    | (with_reducible refine Lim.ite ?_ ?_)
    | (with_reducible refine Lim.bind ?_ (fun _ => ?_)))
theorem laws_eqIntS.F_eq (l0 : List Int) (l1 : List Int) : laws_eqIntS.F l0 l1 = (if (l0.length : Int) = (l1.length : Int) then (laws_eqIntS.L0 l0 l1 0) else (some false)) :=
  Lim.unique (laws_eqIntS.F_lim l0 l1) (by
    unfold laws_eqIntS.f
    repeat' first
    | (with_reducible exact Lim.const _)
    | (with_reducible exact laws_eqIntS.L0_lim _ _ _)
    | (with_reducible refine Lim.ite ?_ ?_)
    | (with_reducible refine Lim.bind ?_ (fun _ => ?_)))

end Go.Proofs.Ytmhcgihkijiecaa.Fn
namespace Go.Proofs.Ytmhcgihkijiecaa.Fn
open Go.RowKit Go.Proofs.YtmhcgihkijiecaaW.PrintWords Go.Proofs.YtmhcgihkijiecaaW.PrintLast Go.Proofs.YtmhcgihkijiecaaW.PrintMore
attribute [local go_sem] max2_int min2_int max_two min_two max_three min_three max_four min_four   -- for this text's walks alone
set_option linter.unusedVariables false
set_option linter.unusedSimpArgs false

/-! ### laws_eqIntSS: function 31 -/
def laws_eqIntSS.l0 : Nat → List (List Int) → List (List Int) → Int → Option (Bool)
  | 0, _, _, _ => none
  | k + 1, x0, x1, x5 => if x5 < (x0.length : Int) then (if 0 ≤ x5 then (if x5 < (x1.length : Int) then ((laws_eqIntS.f k (rd_L1 x0 x5) (rd_L1 x1 x5)).bind fun t284 => (if t284 = true then (laws_eqIntSS.l0 k x0 x1 (wrap64 (x5 + 1))) else (some false))) else (none)) else (none)) else (some true)
def laws_eqIntSS.f (k : Nat) (l0 : List (List Int)) (l1 : List (List Int)) : Option (Bool) := if (l0.length : Int) = (l1.length : Int) then (laws_eqIntSS.l0 k l0 l1 0) else (some false)
theorem laws_eqIntSS.mono_l : ∀ k, (∀ y0 y1 y2, LeO (laws_eqIntSS.l0 k y0 y1 y2) (laws_eqIntSS.l0 (k + 1) y0 y1 y2))
  | 0 => fun _ _ _ r h => by simp [laws_eqIntSS.l0] at h
  | k + 1 => by
    have ih0 := laws_eqIntSS.mono_l k
    · intro y0 y1 y2
      unfold laws_eqIntSS.l0
      repeat' first
      | (with_reducible exact ih0 _ _ _)
      | (with_reducible exact laws_eqIntS.mono _ _ _)
      | (with_reducible exact LeO.refl _)
      | (with_reducible exact LeO.none _)
      | (with_reducible refine LeO.ite ?_ ?_)
      | (with_reducible refine LeO.bind ?_ (fun _ => ?_))
      | exact ih0 _ _ _
      | exact laws_eqIntS.mono _ _ _
      | exact LeO.none _
      | refine LeO.ite ?_ ?_
      | refine LeO.bind ?_ (fun _ => ?_)
theorem laws_eqIntSS.mono : ∀ a0 a1 k, LeO (laws_eqIntSS.f k a0 a1) (laws_eqIntSS.f (k + 1) a0 a1) := by
  intro a0 a1 k
  have ih0 := laws_eqIntSS.mono_l k
  unfold laws_eqIntSS.f
  repeat' first
      | (with_reducible exact ih0 _ _ _)
      | (with_reducible exact laws_eqIntS.mono _ _ _)
      | (with_reducible exact LeO.refl _)
      | (with_reducible exact LeO.none _)
      | (with_reducible refine LeO.ite ?_ ?_)
      | (with_reducible refine LeO.bind ?_ (fun _ => ?_))
      | exact ih0 _ _ _
      | exact laws_eqIntS.mono _ _ _
      | exact LeO.none _
      | refine LeO.ite ?_ ?_
      | refine LeO.bind ?_ (fun _ => ?_)
set_option maxHeartbeats 8000000 in
set_option maxRecDepth 100000 in
theorem laws_eqIntSS.calls (k : Nat) (A0 : Option Addr) (c0 : Nat) (l0 : List (List Int)) (A1 : Option Addr) (c1 : Nat) (l1 : List (List Int)) (r : Bool) (w : World) (hr0 : Kd.C (Kd.slice 3 (Kd.int .i64)) w A0 l0.length l0) (hc0 : l0.length ≤ c0) (hr1 : Kd.C (Kd.slice 3 (Kd.int .i64)) w A1 l1.length l1) (hc1 : l1.length ≤ c1) (h : laws_eqIntSS.f k l0 l1 = some r) :
    Calls Try.prog 31 #[.slice A0 l0.length c0, .slice A1 l1.length c1] w fun e w' => e = .returned (.bool r) ∧ Drawn0 w w' := by
  have HR0 := Aside0.mk hr0
  have HC0 := Aside0.mk hc0
  clear hr0 hc0
  have HR1 := Aside0.mk hr1
  have HC1 := Aside0.mk hc1
  clear hr1 hc1
  have H : (if (l0.length : Int) = (l1.length : Int) then (laws_eqIntSS.l0 k l0 l1 0) else (some false)) = some r := h
  clear h
  by_cases c3 : (l0.length : Int) = (l1.length : Int)
  · rw [if_pos c3] at H
    have c3b0 : ((l0.length : Int) == (l1.length : Int)) = true := beq_iff_eq.mpr c3
    have c3b1 : ((l0.length : Int) != (l1.length : Int)) = false := bne_eq_false_iff_eq.mpr c3
    have c3b2 : (l0.length == l1.length) = true := by first | simpa using c3 | (simp at c3 ⊢; omega)
    clear c3
    have H' := Aside0.mk H
    clear H
    go_enter Try.func31, Try.ntmps31
    go_wp2
    repeat (go_quiet (fail); try go_wp2)
    go_loopg [5] k (fun kq v5 w' => ∃ (x5_1 : Int), v5 = .int .i64 x5_1 ∧ Aside0 (laws_eqIntSS.l0 kq l0 l1 x5_1 = some r) ∧ Aside0 (kq ≤ k) ∧ Drawn0 w w')
    case atStart => exact ⟨(0), (by first | rfl | (simp; done) | (simp [*]; done)), H', ⟨Nat.le_refl _⟩, by repeat (first | exact Drawn0.refl _ | apply Drawn0.step)⟩
    case round =>
      clear H'
      try clear c1
      try clear p2
      try clear c3
      try clear c3b0
      try clear c3b1
      try clear c3b2
      obtain ⟨x5_1, rfl, HA, HK1, ⟨m1, rfl⟩⟩ := hrel
      cases gk with
      | zero => exact absurd HA.out (by simp [laws_eqIntSS.l0])
      | succ k1 =>
        have H := HA.out
        clear HA
        simp only [laws_eqIntSS.l0] at H
        by_cases c4 : x5_1 < (l0.length : Int)
        · rw [if_pos c4] at H
          have c4b0 : decide (x5_1 < (l0.length : Int)) = true := decide_eq_true c4
          clear c4
          by_cases c5 : 0 ≤ x5_1
          · rw [if_pos c5] at H
            have c5b0 : decide (0 ≤ x5_1) = true := decide_eq_true c5
            clear c5
            by_cases c6 : x5_1 < (l1.length : Int)
            · rw [if_pos c6] at H
              have c6b0 : decide (x5_1 < (l1.length : Int)) = true := decide_eq_true c6
              clear c6
              replace H := Option.bind_eq_some_iff.mp H
              obtain ⟨t284, A70, H⟩ := H
              replace H : (if t284 = true then (laws_eqIntSS.l0 k1 l0 l1 (wrap64 (x5_1 + 1))) else (some false)) = some r := H
              have A7 := Aside0.mk A70
              clear A70
              by_cases c8 : t284 = true
              · subst c8
                have H1 : (laws_eqIntSS.l0 k1 l0 l1 (wrap64 (x5_1 + 1))) = some r := by rw [if_pos rfl] at H; exact H
                clear H
                have H := H1
                clear H1
                have H' := Aside0.mk H
                clear H
                have p282 : 0 ≤ (x5_1 : Int) := of_decide_eq_true (by first | (with_reducible assumption) | assumption)
                have q282 : x5_1 < (l0.length : Int) := of_decide_eq_true (by first | (with_reducible assumption) | assumption)
                obtain ⟨ad282, A282_0, c282_0, e282, hx282_0, hl282_0, hi282_0⟩ := at_L1 HR0.out x5_1 p282 q282
                cases e282
                have HR282_0 := Aside0.mk hi282_0
                have HC282_0 := Aside0.mk hl282_0
                clear hi282_0 hl282_0
                replace p282 := eq_true p282
                replace q282 := eq_true q282
                have p283 : 0 ≤ (x5_1 : Int) := of_decide_eq_true (by first | (with_reducible assumption) | assumption)
                have q283 : x5_1 < (l1.length : Int) := of_decide_eq_true (by first | (with_reducible assumption) | assumption)
                obtain ⟨ad283, A283_0, c283_0, e283, hx283_0, hl283_0, hi283_0⟩ := at_L1 HR1.out x5_1 p283 q283
                cases e283
                have HR283_0 := Aside0.mk hi283_0
                have HC283_0 := Aside0.mk hl283_0
                clear hi283_0 hl283_0
                replace p283 := eq_true p283
                replace q283 := eq_true q283
                go_wp2_with (first | (go_at_call 20; (with_reducible refine (laws_eqIntS.calls k1 _ _ (rd_L1 l0 x5_1) _ _ (rd_L1 l1 x5_1) true _ ?side1 ?side2 ?side3 ?side4 A7.out).mono ?_); (case side1 => repeat (first | exact HR282_0.out | (with_reducible refine Kd.C_alloc ?_ _) | (with_reducible refine Kd.C_drewN ?_ _) | (with_reducible refine Kd.C_drew ?_))); (case side2 => exact HC282_0.out); (case side3 => repeat (first | exact HR283_0.out | (with_reducible refine Kd.C_alloc ?_ _) | (with_reducible refine Kd.C_drewN ?_ _) | (with_reducible refine Kd.C_drew ?_))); (case side4 => exact HC283_0.out); rintro e w' ⟨rfl, ⟨nd, rfl⟩⟩; (try first | exact ⟨rfl, _, World.drewN_drewN _ _ _⟩ | exact ⟨rfl, _, Eq.trans (World.drewN_drewN _ _ _) (congrArg (World.drewN _) (Nat.add_assoc _ _ _))⟩)))
                repeat (go_quiet (first | (go_at_call 20; (with_reducible refine (laws_eqIntS.calls k1 _ _ (rd_L1 l0 x5_1) _ _ (rd_L1 l1 x5_1) true _ ?side1 ?side2 ?side3 ?side4 A7.out).mono ?_); (case side1 => repeat (first | exact HR282_0.out | (with_reducible refine Kd.C_alloc ?_ _) | (with_reducible refine Kd.C_drewN ?_ _) | (with_reducible refine Kd.C_drew ?_))); (case side2 => exact HC282_0.out); (case side3 => repeat (first | exact HR283_0.out | (with_reducible refine Kd.C_alloc ?_ _) | (with_reducible refine Kd.C_drewN ?_ _) | (with_reducible refine Kd.C_drew ?_))); (case side4 => exact HC283_0.out); rintro e w' ⟨rfl, ⟨nd, rfl⟩⟩; (try first | exact ⟨rfl, _, World.drewN_drewN _ _ _⟩ | exact ⟨rfl, _, Eq.trans (World.drewN_drewN _ _ _) (congrArg (World.drewN _) (Nat.add_assoc _ _ _))⟩))); try go_wp2_with (first | (go_at_call 20; (with_reducible refine (laws_eqIntS.calls k1 _ _ (rd_L1 l0 x5_1) _ _ (rd_L1 l1 x5_1) true _ ?side1 ?side2 ?side3 ?side4 A7.out).mono ?_); (case side1 => repeat (first | exact HR282_0.out | (with_reducible refine Kd.C_alloc ?_ _) | (with_reducible refine Kd.C_drewN ?_ _) | (with_reducible refine Kd.C_drew ?_))); (case side2 => exact HC282_0.out); (case side3 => repeat (first | exact HR283_0.out | (with_reducible refine Kd.C_alloc ?_ _) | (with_reducible refine Kd.C_drewN ?_ _) | (with_reducible refine Kd.C_drew ?_))); (case side4 => exact HC283_0.out); rintro e w' ⟨rfl, ⟨nd, rfl⟩⟩; (try first | exact ⟨rfl, _, World.drewN_drewN _ _ _⟩ | exact ⟨rfl, _, Eq.trans (World.drewN_drewN _ _ _) (congrArg (World.drewN _) (Nat.add_assoc _ _ _))⟩))))
                go_roundg k1
                case measure => have := HK1.out; omega
                case rel => exact ⟨(wrap64 (x5_1 + 1)), (by first | rfl | (simp; done) | (simp [*]; done)), H', ⟨by have := HK1.out; omega⟩, by repeat (first | exact Drawn0.refl _ | apply Drawn0.step)⟩
              · replace c8 := Bool.eq_false_iff.mpr c8
                subst c8
                have H1 : (some false) = some r := by rw [if_neg (show ¬ (false = true) by decide)] at H; exact H
                clear H
                have H := H1
                clear H1
                obtain rfl := Option.some.inj H
                have p282 : 0 ≤ (x5_1 : Int) := of_decide_eq_true (by first | (with_reducible assumption) | assumption)
                have q282 : x5_1 < (l0.length : Int) := of_decide_eq_true (by first | (with_reducible assumption) | assumption)
                obtain ⟨ad282, A282_0, c282_0, e282, hx282_0, hl282_0, hi282_0⟩ := at_L1 HR0.out x5_1 p282 q282
                cases e282
                have HR282_0 := Aside0.mk hi282_0
                have HC282_0 := Aside0.mk hl282_0
                clear hi282_0 hl282_0
                replace p282 := eq_true p282
                replace q282 := eq_true q282
                have p283 : 0 ≤ (x5_1 : Int) := of_decide_eq_true (by first | (with_reducible assumption) | assumption)
                have q283 : x5_1 < (l1.length : Int) := of_decide_eq_true (by first | (with_reducible assumption) | assumption)
                obtain ⟨ad283, A283_0, c283_0, e283, hx283_0, hl283_0, hi283_0⟩ := at_L1 HR1.out x5_1 p283 q283
                cases e283
                have HR283_0 := Aside0.mk hi283_0
                have HC283_0 := Aside0.mk hl283_0
                clear hi283_0 hl283_0
                replace p283 := eq_true p283
                replace q283 := eq_true q283
                go_wp2_with (first | (go_at_call 20; (with_reducible refine (laws_eqIntS.calls k1 _ _ (rd_L1 l0 x5_1) _ _ (rd_L1 l1 x5_1) false _ ?side1 ?side2 ?side3 ?side4 A7.out).mono ?_); (case side1 => repeat (first | exact HR282_0.out | (with_reducible refine Kd.C_alloc ?_ _) | (with_reducible refine Kd.C_drewN ?_ _) | (with_reducible refine Kd.C_drew ?_))); (case side2 => exact HC282_0.out); (case side3 => repeat (first | exact HR283_0.out | (with_reducible refine Kd.C_alloc ?_ _) | (with_reducible refine Kd.C_drewN ?_ _) | (with_reducible refine Kd.C_drew ?_))); (case side4 => exact HC283_0.out); rintro e w' ⟨rfl, ⟨nd, rfl⟩⟩; (try first | exact ⟨rfl, _, World.drewN_drewN _ _ _⟩ | exact ⟨rfl, _, Eq.trans (World.drewN_drewN _ _ _) (congrArg (World.drewN _) (Nat.add_assoc _ _ _))⟩)))
                repeat (go_quiet (first | (go_at_call 20; (with_reducible refine (laws_eqIntS.calls k1 _ _ (rd_L1 l0 x5_1) _ _ (rd_L1 l1 x5_1) false _ ?side1 ?side2 ?side3 ?side4 A7.out).mono ?_); (case side1 => repeat (first | exact HR282_0.out | (with_reducible refine Kd.C_alloc ?_ _) | (with_reducible refine Kd.C_drewN ?_ _) | (with_reducible refine Kd.C_drew ?_))); (case side2 => exact HC282_0.out); (case side3 => repeat (first | exact HR283_0.out | (with_reducible refine Kd.C_alloc ?_ _) | (with_reducible refine Kd.C_drewN ?_ _) | (with_reducible refine Kd.C_drew ?_))); (case side4 => exact HC283_0.out); rintro e w' ⟨rfl, ⟨nd, rfl⟩⟩; (try first | exact ⟨rfl, _, World.drewN_drewN _ _ _⟩ | exact ⟨rfl, _, Eq.trans (World.drewN_drewN _ _ _) (congrArg (World.drewN _) (Nat.add_assoc _ _ _))⟩))); try go_wp2_with (first | (go_at_call 20; (with_reducible refine (laws_eqIntS.calls k1 _ _ (rd_L1 l0 x5_1) _ _ (rd_L1 l1 x5_1) false _ ?side1 ?side2 ?side3 ?side4 A7.out).mono ?_); (case side1 => repeat (first | exact HR282_0.out | (with_reducible refine Kd.C_alloc ?_ _) | (with_reducible refine Kd.C_drewN ?_ _) | (with_reducible refine Kd.C_drew ?_))); (case side2 => exact HC282_0.out); (case side3 => repeat (first | exact HR283_0.out | (with_reducible refine Kd.C_alloc ?_ _) | (with_reducible refine Kd.C_drewN ?_ _) | (with_reducible refine Kd.C_drew ?_))); (case side4 => exact HC283_0.out); rintro e w' ⟨rfl, ⟨nd, rfl⟩⟩; (try first | exact ⟨rfl, _, World.drewN_drewN _ _ _⟩ | exact ⟨rfl, _, Eq.trans (World.drewN_drewN _ _ _) (congrArg (World.drewN _) (Nat.add_assoc _ _ _))⟩))))
                go_ret
                exact ⟨by first | rfl | (simp; done) | (simp [*]; done), by repeat (first | exact Drawn0.refl _ | apply Drawn0.step)⟩
            · rw [if_neg c6] at H
              exact absurd H (by simp)
          · rw [if_neg c5] at H
            exact absurd H (by simp)
        · rw [if_neg c4] at H
          have c4b0 : decide (x5_1 < (l0.length : Int)) = false := decide_eq_false c4
          clear c4
          obtain rfl := Option.some.inj H
          go_wp2
          repeat (go_quiet (fail); try go_wp2)
          go_ret
          exact ⟨by first | rfl | (simp; done) | (simp [*]; done), by repeat (first | exact Drawn0.refl _ | apply Drawn0.step)⟩
  · rw [if_neg c3] at H
    have c3b0 : ((l0.length : Int) == (l1.length : Int)) = false := beq_eq_false_iff_ne.mpr c3
    have c3b1 : ((l0.length : Int) != (l1.length : Int)) = true := bne_iff_ne.mpr c3
    have c3b2 : (l0.length == l1.length) = false := by first | simpa using c3 | (simp at c3 ⊢; omega)
    obtain rfl := Option.some.inj H
    go_enter Try.func31, Try.ntmps31
    go_wp2
    repeat (go_quiet (fail); try go_wp2)
    go_ret
    exact ⟨by first | rfl | (simp; done) | (simp [*]; done), by repeat (first | exact Drawn0.refl _ | apply Drawn0.step)⟩

noncomputable def laws_eqIntSS.L0 (x0 : List (List Int)) (x1 : List (List Int)) (x5 : Int) : Option (Bool) := lim fun k => laws_eqIntSS.l0 k x0 x1 x5
theorem laws_eqIntSS.L0_lim (x0 : List (List Int)) (x1 : List (List Int)) (x5 : Int) : Lim (fun k => laws_eqIntSS.l0 k x0 x1 x5) (laws_eqIntSS.L0 x0 x1 x5) := Lim.of fun k => (laws_eqIntSS.mono_l k) x0 x1 x5
noncomputable def laws_eqIntSS.F (l0 : List (List Int)) (l1 : List (List Int)) : Option (Bool) := lim fun k => laws_eqIntSS.f k l0 l1
theorem laws_eqIntSS.F_lim (l0 : List (List Int)) (l1 : List (List Int)) : Lim (fun k => laws_eqIntSS.f k l0 l1) (laws_eqIntSS.F l0 l1) := Lim.of fun k => laws_eqIntSS.mono l0 l1 k
theorem laws_eqIntSS.L0_eq (x0 : List (List Int)) (x1 : List (List Int)) (x5 : Int) : laws_eqIntSS.L0 x0 x1 x5 = (if x5 < (x0.length : Int) then (if 0 ≤ x5 then (if x5 < (x1.length : Int) then ((laws_eqIntS.F (rd_L1 x0 x5) (rd_L1 x1 x5)).bind fun t284 => (if t284 = true then (laws_eqIntSS.L0 x0 x1 (wrap64 (x5 + 1))) else (some false))) else (none)) else (none)) else (some true)) :=
  Lim.step (f := fun k => (if x5 < (x0.length : Int) then (if 0 ≤ x5 then (if x5 < (x1.length : Int) then ((laws_eqIntS.f k (rd_L1 x0 x5) (rd_L1 x1 x5)).bind fun t284 => (if t284 = true then (laws_eqIntSS.l0 k x0 x1 (wrap64 (x5 + 1))) else (some false))) else (none)) else (none)) else (some true))) (laws_eqIntSS.L0_lim x0 x1 x5) (fun k => by first | rfl | rw [laws_eqIntSS.l0]) (by
    repeat' first
    | (with_reducible exact Lim.const _)
    | (with_reducible exact laws_eqIntS.F_lim _ _)
    | (with_reducible exact laws_eqIntSS.L0_lim _ _ _)
    | (with_reducible refine Lim.ite ?_ ?_)
    | (with_reducible refine Lim.bind ?_ (fun _ => ?_)))
theorem laws_eqIntSS.F_eq (l0 : List (List Int)) (l1 : List (List Int)) : laws_eqIntSS.F l0 l1 = (if (l0.length : Int) = (l1.length : Int) then (laws_eqIntSS.L0 l0 l1 0) else (some false)) :=
  Lim.unique (laws_eqIntSS.F_lim l0 l1) (by
    unfold laws_eqIntSS.f
    repeat' first
    | (with_reducible exact Lim.const _)
    | (with_reducible exact laws_eqIntSS.L0_lim _ _ _)
    | (with_reducible refine Lim.ite ?_ ?_)
    | (with_reducible refine Lim.bind ?_ (fun _ => ?_)))

end Go.Proofs.Ytmhcgihkijiecaa.Fn
namespace Go.Proofs.Ytmhcgihkijiecaa.Fn
open Go.RowKit Go.Proofs.YtmhcgihkijiecaaW.PrintWords Go.Proofs.YtmhcgihkijiecaaW.PrintLast Go.Proofs.YtmhcgihkijiecaaW.PrintMore
attribute [local go_sem] max2_int min2_int max_two min_two max_three min_three max_four min_four   -- for this text's walks alone
set_option linter.unusedVariables false
set_option linter.unusedSimpArgs false

/-! ### laws_markIntS: function 21 -/
def laws_markIntS.l0 : Nat → List Int → Int → Int → Option (Int × List Int)
  | 0, _, _, _ => none
  | k + 1, x0, x1, x5 => if x5 < (x0.length : Int) then (if 0 ≤ x5 then (laws_markIntS.l0 k (x0.set (x5 : Int).toNat x1) (wrap64 (x1 + 1)) (wrap64 (x5 + 1))) else (none)) else (some (x1, x0))
def laws_markIntS.f (k : Nat) (l0 : List Int) (a1 : Int) : Option (Int × List Int) := laws_markIntS.l0 k l0 a1 0
theorem laws_markIntS.mono_l : ∀ k, (∀ y0 y1 y2, LeO (laws_markIntS.l0 k y0 y1 y2) (laws_markIntS.l0 (k + 1) y0 y1 y2))
  | 0 => fun _ _ _ r h => by simp [laws_markIntS.l0] at h
  | k + 1 => by
    have ih0 := laws_markIntS.mono_l k
    · intro y0 y1 y2
      unfold laws_markIntS.l0
      repeat' first
      | (with_reducible exact ih0 _ _ _)
      | (with_reducible exact LeO.refl _)
      | (with_reducible exact LeO.none _)
      | (with_reducible refine LeO.ite ?_ ?_)
      | (with_reducible refine LeO.bind ?_ (fun _ => ?_))
      | exact ih0 _ _ _
      | exact LeO.none _
      | refine LeO.ite ?_ ?_
      | refine LeO.bind ?_ (fun _ => ?_)
theorem laws_markIntS.mono : ∀ a0 a1 k, LeO (laws_markIntS.f k a0 a1) (laws_markIntS.f (k + 1) a0 a1) := by
  intro a0 a1 k
  have ih0 := laws_markIntS.mono_l k
  unfold laws_markIntS.f
  repeat' first
      | (with_reducible exact ih0 _ _ _)
      | (with_reducible exact LeO.refl _)
      | (with_reducible exact LeO.none _)
      | (with_reducible refine LeO.ite ?_ ?_)
      | (with_reducible refine LeO.bind ?_ (fun _ => ?_))
      | exact ih0 _ _ _
      | exact LeO.none _
      | refine LeO.ite ?_ ?_
      | refine LeO.bind ?_ (fun _ => ?_)
set_option maxHeartbeats 8000000 in
set_option maxRecDepth 100000 in
theorem laws_markIntS.calls (k : Nat) (P0_ : Nat → Prop) (u9000_ : Value) (l0 : List Int) (a1 : Int) (r1 : Int) (r2 : List Int) (w0 w : World) (hB : Below w0.heap.size w0 w) (ho0 : Kd.R (Kd.int .i64) 3 w w0.heap.size P0_ u9000_ l0) (h : laws_markIntS.f k l0 a1 = some (r1, r2)) :
    Calls Try.prog 21 #[u9000_, .int .i64 a1] w fun e w' => e = .returned (.int .i64 r1) ∧ Kd.R (Kd.int .i64) 3 w' w0.heap.size (fun k_ => (P0_ k_ ∨ w.heap.size ≤ k_)) u9000_ r2 ∧ Below w0.heap.size w0 w' ∧ Kept w w' (fun k_ => P0_ k_) := by
  have HO0 := Aside0.mk (show Kd.R (Kd.int .i64) 3 w w0.heap.size (fun k_ => (P0_ k_ ∨ w.heap.size ≤ k_)) u9000_ l0 from Kd.R_mono ho0 (fun k_ hk => (.inl hk)))
  have HK := Aside0.mk (Kept.refl w (fun k_ => P0_ k_))
  have HW0 := Aside0.mk hB.size
  have HB := Aside0.mk hB
  clear hB
  have H : (laws_markIntS.l0 k l0 a1 0) = some (r1, r2) := h
  clear h
  have H' := Aside0.mk H
  clear H
  go_enter Try.func21, Try.ntmps21
  go_wp2
  go_loopg [1, 5] k (fun kq v1 v5 w' => ∃ (x0_1 : List Int) (x1_1 : Int) (x5_1 : Int), v1 = .int .i64 x1_1 ∧ v5 = .int .i64 x5_1 ∧ Aside0 (laws_markIntS.l0 kq x0_1 x1_1 x5_1 = some (r1, r2)) ∧ Aside0 (kq ≤ k) ∧ Aside0 (Kd.R (Kd.int .i64) 3 w' w0.heap.size (fun k_ => (P0_ k_ ∨ w.heap.size ≤ k_)) u9000_ x0_1) ∧ Aside0 (Kept w w' (fun k_ => P0_ k_)) ∧ Aside0 (Below w0.heap.size w0 w'))
  case atStart => exact ⟨(l0), (a1), (0), (by first | rfl | (simp; done) | (simp [*]; done)), (by first | rfl | (simp; done) | (simp [*]; done)), H', ⟨Nat.le_refl _⟩, ⟨by (with_reducible repeat (first | apply Kd.R_alloc | apply Kd.R_drewN | apply Kd.R_drew)); exact HO0.out⟩, ⟨by repeat (first | (with_reducible first | exact HK.out | apply Kept.alloc | apply Kept.drewN | apply Kept.drew) | exact HK.out)⟩, ⟨by repeat (first | (with_reducible first | exact HB.out | apply below_alloc | apply pw_below_drewN | apply below_drew1) | exact HB.out)⟩⟩
  case round =>
    clear H'
    try clear c2
    try clear p2
    obtain ⟨x0_1, x1_1, x5_1, rfl, rfl, HA, HK1, HO_0, HK, HB⟩ := hrel
    cases gk with
    | zero => exact absurd HA.out (by simp [laws_markIntS.l0])
    | succ k1 =>
      have H := HA.out
      clear HA
      simp only [laws_markIntS.l0] at H
      by_cases c3 : x5_1 < (x0_1.length : Int)
      · rw [if_pos c3] at H
        have c3b0 : decide (x5_1 < (x0_1.length : Int)) = true := decide_eq_true c3
        clear c3
        by_cases c4 : 0 ≤ x5_1
        · rw [if_pos c4] at H
          have c4b0 : decide (0 ≤ x5_1) = true := decide_eq_true c4
          clear c4
          obtain ⟨y152, hy152⟩ : ∃ y_ : List Int, y_ = (x0_1.set (x5_1 : Int).toNat x1_1) := ⟨_, rfl⟩
          replace H : (laws_markIntS.l0 k1 y152 (wrap64 (x1_1 + 1)) (wrap64 (x5_1 + 1))) = some (r1, r2) := by first | (rw [hy152]; with_reducible exact H) | (have H2_ := (Option.bind_some _ _).symm.trans H; rw [hy152]; with_reducible exact H2_) | (have H2_ := (Option.bind_some _ _).symm.trans H; with_reducible exact H2_) | with_reducible exact H | (rw [hy152]; exact H) | exact H
          have Ny152 := Aside0.mk hy152
          clear hy152
          have H' := Aside0.mk H
          clear H
          obtain ⟨Ao6, co6, eo6⟩ := Kd.R_slice HO_0.out
          subst eo6
          have p5 : 0 ≤ (x5_1 : Int) := of_decide_eq_true (by first | (with_reducible assumption) | assumption)
          have q5 : (x5_1 : Int) < ((x0_1.length : Int) : Int) := of_decide_eq_true (by first | (with_reducible assumption) | assumption)
          obtain ⟨go5, co5, eo5, gb5, gl5, cl5, HG5⟩ := Kd.R_form HO_0.out (by omega)
          (first | cases eo5 | (injection eo5 with ea_ en_ ec_; (first | subst ea_ | (injection ea_ with ea_; subst ea_)); subst ec_; clear en_))
          have GB5 := Aside0.mk gb5
          have GG5 := Aside0.mk HG5
          clear gb5 gl5 HG5
          have HMgo5 := Aside0.mk (show (P0_ go5 ∨ w.heap.size ≤ go5) from (HO_0.out.1 _ rfl))
          obtain ⟨hx5_0, hf5_0⟩ := Kd.R_celln 0 HO_0.out (x5_1 : Int) p5 q5
          replace p5 := eq_true p5
          replace q5 := eq_true q5
          have HP7 := Kd.R_putg HO_0.out (x5_1 : Int) x1_1
          go_wp2_with (first | ((with_reducible refine gate_store (t := 3) (p := 15) rfl ?_); refine store_event (t := 3) (p := 15) (v := ?vo_w8) (w1 := (wr.setCell ⟨go5, (x5_1 : Int).toNat, none⟩ (.int .i64 x1_1))) ?hg ?ho ?hn ?hr ?_; (case ho => rfl); (case hg => rfl); (case hn => rfl); (case hr => first | (go_simp; done) | (go_simp; rfl)); intro w8 hw; have hg : wr.grownBy w8 (some go5) := (by rw [hw]; exact HP7.2); have hp_ : Kd.R (Kd.int .i64) 3 w8 w0.heap.size (fun k_ => (P0_ k_ ∨ w.heap.size ≤ k_)) (.slice (some ⟨go5, 0, none⟩) x0_1.length co6) y152 := (by rw [hw, Ny152.out]; exact HP7.1); clear HP7; have n0_ := Aside0.mk (hp_); have n1_ := Aside0.mk ((by rw [hw]; exact below_set (HB.out) GB5.out : Below w0.heap.size w0 w8)); have n2_ := Aside0.mk (Kept.of_grown (S := (fun k_ => P0_ k_)) hg (by repeat (first | (with_reducible first | exact HK.out | apply Kept.alloc | apply Kept.drewN | apply Kept.drew) | exact HK.out)) (fun k_ e_ => (HO_0.out.1 k_ e_))); clear HO_0; clear HB; clear HK; have HO_0 := n0_; have HB := n1_; have HK := n2_; clear n0_ n1_ n2_; clear hg hw hp_))
          go_roundg k1
          case measure => have := HK1.out; omega
          case rel => exact ⟨(y152), (wrap64 (x1_1 + 1)), (wrap64 (x5_1 + 1)), (by first | rfl | (simp; done) | (simp [*]; done)), (by first | rfl | (simp; done) | (simp [*]; done)), H', ⟨by have := HK1.out; omega⟩, ⟨by (with_reducible repeat (first | apply Kd.R_alloc | apply Kd.R_drewN | apply Kd.R_drew)); exact HO_0.out⟩, ⟨by repeat (first | (with_reducible first | exact HK.out | apply Kept.alloc | apply Kept.drewN | apply Kept.drew) | exact HK.out)⟩, ⟨by repeat (first | (with_reducible first | exact HB.out | apply below_alloc | apply pw_below_drewN | apply below_drew1) | exact HB.out)⟩⟩
        · rw [if_neg c4] at H
          exact absurd H (by simp)
      · rw [if_neg c3] at H
        have c3b0 : decide (x5_1 < (x0_1.length : Int)) = false := decide_eq_false c3
        clear c3
        simp only [Option.some.injEq, Prod.mk.injEq] at H
        obtain ⟨rfl, rfl⟩ := H
        obtain ⟨Ao9, co9, eo9⟩ := Kd.R_slice HO_0.out
        subst eo9
        go_wp2
        go_ret
        exact ⟨by first | rfl | (simp [errW_none, errW_some] <;> rfl) | (simp [*, errW_none, errW_some] <;> rfl), by (with_reducible repeat (first | apply Kd.R_alloc | apply Kd.R_drewN | apply Kd.R_drew)); exact HO_0.out, by repeat (first | (with_reducible first | exact HB.out | apply below_alloc | apply pw_below_drewN | apply below_drew1) | exact HB.out), by repeat (first | (with_reducible first | exact HK.out | apply Kept.alloc | apply Kept.drewN | apply Kept.drew) | exact HK.out)⟩

noncomputable def laws_markIntS.L0 (x0 : List Int) (x1 : Int) (x5 : Int) : Option (Int × List Int) := lim fun k => laws_markIntS.l0 k x0 x1 x5
theorem laws_markIntS.L0_lim (x0 : List Int) (x1 : Int) (x5 : Int) : Lim (fun k => laws_markIntS.l0 k x0 x1 x5) (laws_markIntS.L0 x0 x1 x5) := Lim.of fun k => (laws_markIntS.mono_l k) x0 x1 x5
noncomputable def laws_markIntS.F (l0 : List Int) (a1 : Int) : Option (Int × List Int) := lim fun k => laws_markIntS.f k l0 a1
theorem laws_markIntS.F_lim (l0 : List Int) (a1 : Int) : Lim (fun k => laws_markIntS.f k l0 a1) (laws_markIntS.F l0 a1) := Lim.of fun k => laws_markIntS.mono l0 a1 k
theorem laws_markIntS.L0_eq (x0 : List Int) (x1 : Int) (x5 : Int) : laws_markIntS.L0 x0 x1 x5 = (if x5 < (x0.length : Int) then (if 0 ≤ x5 then (laws_markIntS.L0 (x0.set (x5 : Int).toNat x1) (wrap64 (x1 + 1)) (wrap64 (x5 + 1))) else (none)) else (some (x1, x0))) :=
  Lim.step (f := fun k => (if x5 < (x0.length : Int) then (if 0 ≤ x5 then (laws_markIntS.l0 k (x0.set (x5 : Int).toNat x1) (wrap64 (x1 + 1)) (wrap64 (x5 + 1))) else (none)) else (some (x1, x0)))) (laws_markIntS.L0_lim x0 x1 x5) (fun k => by first | rfl | rw [laws_markIntS.l0]) (by
    repeat' first
    | (with_reducible exact Lim.const _)
    | (with_reducible exact laws_markIntS.L0_lim _ _ _)
    | (with_reducible refine Lim.ite ?_ ?_)
    | (with_reducible refine Lim.bind ?_ (fun _ => ?_)))
theorem laws_markIntS.F_eq (l0 : List Int) (a1 : Int) : laws_markIntS.F l0 a1 = (laws_markIntS.L0 l0 a1 0) :=
  Lim.unique (laws_markIntS.F_lim l0 a1) (by
    unfold laws_markIntS.f
    repeat' first
    | (with_reducible exact Lim.const _)
    | (with_reducible exact laws_markIntS.L0_lim _ _ _)
    | (with_reducible refine Lim.ite ?_ ?_)
    | (with_reducible refine Lim.bind ?_ (fun _ => ?_)))

end Go.Proofs.Ytmhcgihkijiecaa.Fn
