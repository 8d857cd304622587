/- The machine's side and plain lemmas for FnExactSkolemOfExtended: texts of this session, merged by its program (part 0). -/
import Derived.Test.YtmphbmpnenekgaaWWords
import Derived.Test.YtmphbmpnenekgaaWMore
import Derived.Test.YtmphbmpnenekgaaWLast
import Derived.Test.YtmphbmpnenekgaaProg
import Derived.Below
import Derived.Deep.Draws
import Derived.Deep.AppendLies
import Derived.Maps.AppendAt
import Derived.OwnWalk
import Derived.Laws.BytesArg
import Derived.Laws.MakeOwn
import Derived.Laws.OwnMore
import Derived.Deep.OwnRows
import Derived.Tactics
import Derived.Lib.ConvBytes
import Derived.Laws.Slices
import Derived.WalkKit
import Derived.KernelRfl
import Derived.RowKit3
import Derived.Deep.LoopGhost
import Derived.Deep.QuietTactic
import Derived.BigQuiet
import Derived.WideLaws
import Derived.Deep.DeepCutAuto
import Derived.Deep.CutBlock
import Derived.Deep.RegionHeld3
import Derived.Laws.Rows
import Derived.Lib.AppendStr
import Derived.ArgAppend
import Derived.Laws.IdiomCopy
import Derived.OrdersHeld
import Derived.Laws.BitsLemmas
import Derived.RowKit
import Derived.Test.YtmphbmpnenekgaaWTab
import Derived.Test.YtmphbmpnenekgaaWFour
import Derived.Test.YtmphbmpnenekgaaWQPut
import Derived.Test.YtmphbmpnenekgaaWApart
import Derived.Test.YtmphbmpnenekgaaWArr
import Derived.Test.YtmphbmpnenekgaaWZeros
import Derived.Test.YtmphbmpnenekgaaWFoot
import Derived.Test.YtmphbmpnenekgaaWKept
import Derived.Test.YtmphbmpnenekgaaWShare
import Derived.Test.YtmphbmpnenekgaaWN
import Derived.Test.YtmphbmpnenekgaaWFootNe
import Derived.Test.YtmphbmpnenekgaaWAt
import Derived.Test.YtmphbmpnenekgaaWEqStruct
import Derived.Test.YtmphbmpnenekgaaWRepsOne
import Derived.Test.YtmphbmpnenekgaaWInv
import Derived.Test.YtmphbmpnenekgaaWInvWords
import Derived.Test.YtmphbmpnenekgaaWGuard
import Derived.Test.YtmphbmpnenekgaaWNEv
import Derived.Laws.CopyOwn
import Derived.Lib.SliceRun
import Derived.Sort.OwnSortedInts
import Derived.Test.YtmphbmpnenekgaaShelf
namespace Go.Proofs.Ytmphbmpnenekgaa.Fn
open Go.RowKit Go.Proofs.YtmphbmpnenekgaaW.PrintWords Go.Proofs.YtmphbmpnenekgaaW.PrintLast

/-- What a function with rounds comes to; none where it comes to nothing. -/
noncomputable def lim {α : Type} (g : Nat → Option α) : Option α := open Classical in if h : ∃ k r, g k = some r then g (Classical.choose h) else none
/-- g gives more with more rounds, and comes to a. -/
structure Lim {α : Type} (g : Nat → Option α) (a : Option α) : Prop where
  mono : ∀ k, LeO (g k) (g (k + 1))
  comes : ∀ r, a = some r ↔ ∃ k, g k = some r
theorem lim_some {α : Type} {g : Nat → Option α} (hg : ∀ k, LeO (g k) (g (k + 1))) (r : α) : lim g = some r ↔ ∃ k, g k = some r := by
  unfold lim
  constructor
  · intro h
    split at h
    · exact ⟨_, h⟩
    · cases h
  · rintro ⟨k, hk⟩
    have hx : ∃ k r, g k = some r := ⟨k, r, hk⟩
    rw [dif_pos hx]
    obtain ⟨r', hr'⟩ := Classical.choose_spec hx
    have h1 := at_rounds hg (Nat.le_max_left k (Classical.choose hx)) hk
    have h2 := at_rounds hg (Nat.le_max_right k (Classical.choose hx)) hr'
    rw [h1] at h2
    rw [hr', h2]
theorem Lim.of {α : Type} {g : Nat → Option α} (hg : ∀ k, LeO (g k) (g (k + 1))) : Lim g (lim g) := ⟨hg, lim_some hg⟩
theorem Lim.unique {α : Type} {g : Nat → Option α} {a b : Option α} (ha : Lim g a) (hb : Lim g b) : a = b := by
  have h : ∀ r, a = some r ↔ b = some r := fun r => (ha.comes r).trans (hb.comes r).symm
  cases a with
  | none =>
    cases b with
    | none => rfl
    | some r => exact absurd ((h r).2 rfl) (by simp)
  | some r => exact ((h r).1 rfl).symm
theorem Lim.const {α : Type} (a : Option α) : Lim (fun _ => a) a := ⟨fun _ => LeO.refl _, fun _ => ⟨fun h => ⟨0, h⟩, fun ⟨_, h⟩ => h⟩⟩
theorem Lim.ite {α : Type} {c : Prop} [Decidable c] {g f : Nat → Option α} {a b : Option α} (hg : Lim g a) (hf : Lim f b) : Lim (fun k => if c then g k else f k) (if c then a else b) := by
  by_cases h : c
  · simp only [if_pos h]
    exact hg
  · simp only [if_neg h]
    exact hf
theorem Lim.bind {α β : Type} {g : Nat → Option α} {f : Nat → α → Option β} {a : Option α} {b : α → Option β} (hg : Lim g a) (hf : ∀ x, Lim (fun k => f k x) (b x)) : Lim (fun k => (g k).bind (f k)) (a.bind b) := by
  refine ⟨fun k => LeO.bind (hg.mono k) (fun x => (hf x).mono k), fun r => ⟨fun h => ?_, fun ⟨k, h⟩ => ?_⟩⟩
  · obtain ⟨x, hx, hb⟩ := Option.bind_eq_some_iff.1 h
    obtain ⟨k, hk⟩ := (hg.comes x).1 hx
    obtain ⟨k', hk'⟩ := ((hf x).comes r).1 hb
    refine ⟨max k k', Option.bind_eq_some_iff.2 ⟨x, at_rounds hg.mono (Nat.le_max_left _ _) hk, ?_⟩⟩
    exact at_rounds (g := fun k => f k x) (hf x).mono (Nat.le_max_right _ _) hk'
  · obtain ⟨x, hx, hb⟩ := Option.bind_eq_some_iff.1 h
    exact Option.bind_eq_some_iff.2 ⟨x, (hg.comes x).2 ⟨k, hx⟩, ((hf x).comes r).2 ⟨k, hb⟩⟩
/-- One round of a loop: what stands behind it comes to the same. -/
theorem Lim.step {α : Type} {g f : Nat → Option α} {a b : Option α} (ha : Lim g a) (hs : ∀ k, g (k + 1) = f k) (hf : Lim f b) : a = b := by
  refine Lim.unique (g := f) ⟨hf.mono, fun r => (ha.comes r).trans ⟨fun ⟨k, h⟩ => ⟨k, ?_⟩, fun ⟨k, h⟩ => ⟨k + 1, (hs k).trans h⟩⟩⟩ hf
  rw [← hs]
  exact ha.mono k r h
theorem Lim.rounds {α : Type} {g : Nat → Option α} {a : Option α} {r : α} (h : Lim g a) (e : a = some r) : ∃ k, g k = some r := (h.comes r).1 e

/-! ### loops over a list -/
theorem wrap_in {n : Int} (h0 : -9223372036854775808 ≤ n) (h1 : n ≤ 9223372036854775807) : wrap64 n = n := by
  unfold wrap64
  omega
theorem rd_mid (pre : List Int) (x : Int) (suf : List Int) : rd (pre ++ x :: suf) (pre.length : Int) = x := by
  unfold rd
  simp
theorem rd_nat (l : List Int) (i : Nat) (h : i < l.length) : rd l (i : Int) = l[i] := by
  unfold rd
  simp [List.getD_eq_getElem?_getD, List.getElem?_eq_getElem h]
theorem range_step {α : Type} {pre : List Int} {x : Int} {suf : List Int} {b n1 n2 e : α} : (if (pre.length : Int) < ((pre ++ x :: suf).length : Int) then (if 0 ≤ (pre.length : Int) then (if (pre.length : Int) < ((pre ++ x :: suf).length : Int) then b else n1) else n2) else e) = b := by
  have h : (pre.length : Int) < ((pre ++ x :: suf).length : Int) := by rw [List.length_append, List.length_cons]; omega
  rw [if_pos h, if_pos (by omega), if_pos h]
theorem range_end {α : Type} {pre : List Int} {b e : α} : (if (pre.length : Int) < ((pre ++ []).length : Int) then b else e) = e := by
  rw [if_neg (by simp)]
theorem wrap_mid {pre : List Int} {x : Int} {suf : List Int} (h : (pre ++ x :: suf).length < 4611686018427387904) : wrap64 ((pre.length : Int) + 1) = ((pre ++ [x]).length : Int) := by
  have h1 : pre.length + 1 ≤ (pre ++ x :: suf).length := by rw [List.length_append, List.length_cons]; omega
  rw [wrap_in (by omega) (by omega)]
  simp
theorem app_mid (pre : List Int) (x : Int) (suf : List Int) : pre ++ x :: suf = (pre ++ [x]) ++ suf := by simp
/-- What is held up to here is nothing; from here on it is S'. -/
theorem weak_ {P : Program} {md : Region.Mode} {ops : Array Oper} {Q : Exit → Act → World → Prop} {S' : World → Prop} {ds : List Nat} : ∀ {fuel : Nat} {l : Array Bool} {a : Act} {w : World}, wpAnyLast P md ops Q S' ds fuel l a w → wpAnyLast P md ops Q (fun _ => True) ds fuel l a w
  | 0, _, _, _, h => h
  | _ + 1, _, _, _, h => ⟨h.1, fun i hi => wpOp_mono (fun _ _ h' => ⟨fun _ _ => trivial, weak_ h'.2⟩) (h.2 i hi)⟩
end Go.Proofs.Ytmphbmpnenekgaa.Fn
namespace Go.Proofs.Ytmphbmpnenekgaa.Fn
open Go.RowKit Go.Proofs.YtmphbmpnenekgaaW.PrintWords Go.Proofs.YtmphbmpnenekgaaW.PrintLast Go.Proofs.YtmphbmpnenekgaaW.PrintMore
attribute [local go_sem] max2_int min2_int max_two min_two max_three min_three max_four min_four   -- for this text's walks alone
set_option linter.unusedVariables false
set_option linter.unusedSimpArgs false



def errW : Option Int → Value
  | none => .nilIface
  | some c => .iface 0 (.int .i64 c)
theorem errW_none : errW none = .nilIface := rfl
theorem errW_some (c : Int) : errW (some c) = .iface 0 (.int .i64 c) := rfl

theorem info3 : (Try.prog.info? 3).map (fun i => (i.zero, i.size, i.bytes)) = some (some (.int .i64 0), 1, 8) := by kernel_rfl
-- the values' own types
def rd_L1 (xs : List (List Int)) (i : Int) : (List Int) := xs.getD i.toNat ([] : List Int)
theorem at_L1 {w : World} {A : Option Addr} {n : Nat} {xs : List (List Int)} (h : Kd.C (Kd.slice 3 (Kd.int .i64)) w A n xs) (i : Int) (h0 : 0 ≤ i) (h1 : i < n) : ∃ ad A0 c0, A = some ad ∧ w.cell? (ad.add i.toNat) = some (.slice A0 (rd_L1 xs i).length c0) ∧ (rd_L1 xs i).length ≤ c0 ∧ (Kd.int .i64).C w A0 (rd_L1 xs i).length (rd_L1 xs i) := by
  obtain ⟨ad, c, e, _, hK, hc0⟩ := Kd.C_get h ([] : List Int) i h0 h1
  have hc : ∀ j u, c[j]? = some u → w.cell? (ad.add (i.toNat * 1 + j)) = some u := hc0
  obtain ⟨A0, c0, rfl, l0, g0⟩ := hK
  exact ⟨ad, A0, c0, e, by have hq := hc 0 _ rfl; rwa [Nat.mul_one, Nat.add_zero] at hq, l0, g0⟩

end Go.Proofs.Ytmphbmpnenekgaa.Fn
namespace Go.Proofs.Ytmphbmpnenekgaa.Fn
open Go.RowKit Go.Proofs.YtmphbmpnenekgaaW.PrintWords Go.Proofs.YtmphbmpnenekgaaW.PrintLast Go.Proofs.YtmphbmpnenekgaaW.PrintMore
attribute [local go_sem] max2_int min2_int max_two min_two max_three min_three max_four min_four   -- for this text's walks alone
set_option linter.unusedVariables false
set_option linter.unusedSimpArgs false

/-! ### impl_IsRow: function 51 -/
def impl_IsRow.l0 : Nat → List Int → List Int → Int → Int → Option (Bool)
  | 0, _, _, _, _ => none
  | k + 1, x0, x5, x6, x7 => if x7 < x6 then (if 0 ≤ x7 then (if x7 < (x5.length : Int) then (if (rd x5 x7) < 0 then (some false) else (if (rd x5 x7) > 20 then (some false) else (impl_IsRow.l0 k x0 x5 x6 (wrap64 (x7 + 1))))) else (none)) else (none)) else (some (decide ((x0.length : Int) ≤ 40)))
def impl_IsRow.f (k : Nat) (l0 : List Int) : Option (Bool) := impl_IsRow.l0 k l0 l0 (l0.length : Int) 0
theorem impl_IsRow.mono_l : ∀ k, (∀ y0 y1 y2 y3, LeO (impl_IsRow.l0 k y0 y1 y2 y3) (impl_IsRow.l0 (k + 1) y0 y1 y2 y3))
  | 0 => fun _ _ _ _ r h => by simp [impl_IsRow.l0] at h
  | k + 1 => by
    have ih0 := impl_IsRow.mono_l k
    · intro y0 y1 y2 y3
      unfold impl_IsRow.l0
      repeat' first
      | (with_reducible exact ih0 _ _ _ _)
      | (with_reducible exact LeO.refl _)
      | (with_reducible exact LeO.none _)
      | (with_reducible refine LeO.ite ?_ ?_)
      | (with_reducible refine LeO.bind ?_ (fun _ => ?_))
      | exact ih0 _ _ _ _
      | exact LeO.none _
      | refine LeO.ite ?_ ?_
      | refine LeO.bind ?_ (fun _ => ?_)
theorem impl_IsRow.mono : ∀ a0 k, LeO (impl_IsRow.f k a0) (impl_IsRow.f (k + 1) a0) := by
  intro a0 k
  have ih0 := impl_IsRow.mono_l k
  unfold impl_IsRow.f
  repeat' first
      | (with_reducible exact ih0 _ _ _ _)
      | (with_reducible exact LeO.refl _)
      | (with_reducible exact LeO.none _)
      | (with_reducible refine LeO.ite ?_ ?_)
      | (with_reducible refine LeO.bind ?_ (fun _ => ?_))
      | exact ih0 _ _ _ _
      | exact LeO.none _
      | refine LeO.ite ?_ ?_
      | refine LeO.bind ?_ (fun _ => ?_)
set_option maxHeartbeats 8000000 in
set_option maxRecDepth 100000 in
theorem impl_IsRow.calls (k : Nat) (A0 : Option Addr) (c0 : Nat) (l0 : List Int) (r : Bool) (w : World) (hr0 : Kd.C (Kd.int .i64) w A0 l0.length l0) (hc0 : l0.length ≤ c0) (h : impl_IsRow.f k l0 = some r) :
    Calls Try.prog 51 #[.slice A0 l0.length c0] w fun e w' => e = .returned (.bool r) ∧ Drawn0 w w' := by
  have HR0 := Aside0.mk hr0
  have HC0 := Aside0.mk hc0
  clear hr0 hc0
  have H : (impl_IsRow.l0 k l0 l0 (l0.length : Int) 0) = some r := h
  clear h
  have H' := Aside0.mk H
  clear H
  go_enter Try.func51, Try.ntmps51
  go_wp2
  go_loopg [7] k (fun kq v7 w' => ∃ (x7_1 : Int), v7 = .int .i64 x7_1 ∧ Aside0 (impl_IsRow.l0 kq l0 l0 (l0.length : Int) x7_1 = some r) ∧ Aside0 (kq ≤ k) ∧ Drawn0 w w')
  case atStart => exact ⟨(0), (by first | rfl | (simp; done) | (simp [*]; done)), H', ⟨Nat.le_refl _⟩, by repeat (first | exact Drawn0.refl _ | apply Drawn0.step)⟩
  case round =>
    clear H'
    obtain ⟨x7_1, rfl, HA, HK1, ⟨m1, rfl⟩⟩ := hrel
    cases gk with
    | zero => exact absurd HA.out (by simp [impl_IsRow.l0])
    | succ k1 =>
      have H := HA.out
      clear HA
      simp only [impl_IsRow.l0] at H
      by_cases c2 : x7_1 < (l0.length : Int)
      · rw [if_pos c2] at H
        have c2b0 : decide (x7_1 < (l0.length : Int)) = true := decide_eq_true c2
        clear c2
        by_cases c3 : 0 ≤ x7_1
        · rw [if_pos c3] at H
          have c3b0 : decide (0 ≤ x7_1) = true := decide_eq_true c3
          clear c3
          by_cases c4 : x7_1 < (l0.length : Int)
          · rw [if_pos c4] at H
            have c4b0 : decide (x7_1 < (l0.length : Int)) = true := decide_eq_true c4
            clear c4
            by_cases c5 : (rd l0 x7_1) < 0
            · rw [if_pos c5] at H
              have c5b0 : decide ((rd l0 x7_1) < 0) = true := decide_eq_true c5
              clear c5
              obtain rfl := Option.some.inj H
              have p136 : 0 ≤ (x7_1 : Int) := of_decide_eq_true (by first | (with_reducible assumption) | assumption)
              have q136 : x7_1 < (l0.length : Int) := of_decide_eq_true (by first | (with_reducible assumption) | assumption)
              obtain ⟨ad136, e136, hx136_0⟩ := Kd.at_int HR0.out x7_1 p136 q136
              cases e136
              replace p136 := eq_true p136
              replace q136 := eq_true q136
              go_wp2
              go_ret
              exact ⟨by first | rfl | (simp; done) | (simp [*]; done), by repeat (first | exact Drawn0.refl _ | apply Drawn0.step)⟩
            · rw [if_neg c5] at H
              have c5b0 : decide ((rd l0 x7_1) < 0) = false := decide_eq_false c5
              clear c5
              by_cases c6 : (rd l0 x7_1) > 20
              · rw [if_pos c6] at H
                have c6b0 : decide (20 < (rd l0 x7_1)) = true := decide_eq_true c6
                clear c6
                obtain rfl := Option.some.inj H
                have p136 : 0 ≤ (x7_1 : Int) := of_decide_eq_true (by first | (with_reducible assumption) | assumption)
                have q136 : x7_1 < (l0.length : Int) := of_decide_eq_true (by first | (with_reducible assumption) | assumption)
                obtain ⟨ad136, e136, hx136_0⟩ := Kd.at_int HR0.out x7_1 p136 q136
                cases e136
                replace p136 := eq_true p136
                replace q136 := eq_true q136
                go_wp2
                go_ret
                exact ⟨by first | rfl | (simp; done) | (simp [*]; done), by repeat (first | exact Drawn0.refl _ | apply Drawn0.step)⟩
              · rw [if_neg c6] at H
                have c6b0 : decide (20 < (rd l0 x7_1)) = false := decide_eq_false c6
                clear c6
                have H' := Aside0.mk H
                clear H
                have p136 : 0 ≤ (x7_1 : Int) := of_decide_eq_true (by first | (with_reducible assumption) | assumption)
                have q136 : x7_1 < (l0.length : Int) := of_decide_eq_true (by first | (with_reducible assumption) | assumption)
                obtain ⟨ad136, e136, hx136_0⟩ := Kd.at_int HR0.out x7_1 p136 q136
                cases e136
                replace p136 := eq_true p136
                replace q136 := eq_true q136
                go_wp2
                go_roundg k1
                case measure => have := HK1.out; omega
                case rel => exact ⟨(wrap64 (x7_1 + 1)), (by first | rfl | (simp; done) | (simp [*]; done)), H', ⟨by have := HK1.out; omega⟩, by repeat (first | exact Drawn0.refl _ | apply Drawn0.step)⟩
          · rw [if_neg c4] at H
            exact absurd H (by simp)
        · rw [if_neg c3] at H
          exact absurd H (by simp)
      · rw [if_neg c2] at H
        have c2b0 : decide (x7_1 < (l0.length : Int)) = false := decide_eq_false c2
        clear c2
        obtain rfl := Option.some.inj H
        go_wp2
        go_ret
        exact ⟨by first | rfl | (simp; done) | (simp [*]; done), by repeat (first | exact Drawn0.refl _ | apply Drawn0.step)⟩

noncomputable def impl_IsRow.L0 (x0 : List Int) (x5 : List Int) (x6 : Int) (x7 : Int) : Option (Bool) := lim fun k => impl_IsRow.l0 k x0 x5 x6 x7
theorem impl_IsRow.L0_lim (x0 : List Int) (x5 : List Int) (x6 : Int) (x7 : Int) : Lim (fun k => impl_IsRow.l0 k x0 x5 x6 x7) (impl_IsRow.L0 x0 x5 x6 x7) := Lim.of fun k => (impl_IsRow.mono_l k) x0 x5 x6 x7
noncomputable def impl_IsRow.F (l0 : List Int) : Option (Bool) := lim fun k => impl_IsRow.f k l0
theorem impl_IsRow.F_lim (l0 : List Int) : Lim (fun k => impl_IsRow.f k l0) (impl_IsRow.F l0) := Lim.of fun k => impl_IsRow.mono l0 k
theorem impl_IsRow.L0_eq (x0 : List Int) (x5 : List Int) (x6 : Int) (x7 : Int) : impl_IsRow.L0 x0 x5 x6 x7 = (if x7 < x6 then (if 0 ≤ x7 then (if x7 < (x5.length : Int) then (if (rd x5 x7) < 0 then (some false) else (if (rd x5 x7) > 20 then (some false) else (impl_IsRow.L0 x0 x5 x6 (wrap64 (x7 + 1))))) else (none)) else (none)) else (some (decide ((x0.length : Int) ≤ 40)))) :=
  Lim.step (f := fun k => (if x7 < x6 then (if 0 ≤ x7 then (if x7 < (x5.length : Int) then (if (rd x5 x7) < 0 then (some false) else (if (rd x5 x7) > 20 then (some false) else (impl_IsRow.l0 k x0 x5 x6 (wrap64 (x7 + 1))))) else (none)) else (none)) else (some (decide ((x0.length : Int) ≤ 40))))) (impl_IsRow.L0_lim x0 x5 x6 x7) (fun k => by first | rfl | rw [impl_IsRow.l0]) (by
    repeat' first
    | (with_reducible exact Lim.const _)
    | (with_reducible exact impl_IsRow.L0_lim _ _ _ _)
    | (with_reducible refine Lim.ite ?_ ?_)
    | (with_reducible refine Lim.bind ?_ (fun _ => ?_)))
theorem impl_IsRow.F_eq (l0 : List Int) : impl_IsRow.F l0 = (impl_IsRow.L0 l0 l0 (l0.length : Int) 0) :=
  Lim.unique (impl_IsRow.F_lim l0) (by
    unfold impl_IsRow.f
    repeat' first
    | (with_reducible exact Lim.const _)
    | (with_reducible exact impl_IsRow.L0_lim _ _ _ _)
    | (with_reducible refine Lim.ite ?_ ?_)
    | (with_reducible refine Lim.bind ?_ (fun _ => ?_)))

end Go.Proofs.Ytmphbmpnenekgaa.Fn
namespace Go.Proofs.Ytmphbmpnenekgaa.Fn
open Go.RowKit Go.Proofs.YtmphbmpnenekgaaW.PrintWords Go.Proofs.YtmphbmpnenekgaaW.PrintLast Go.Proofs.YtmphbmpnenekgaaW.PrintMore
attribute [local go_sem] max2_int min2_int max_two min_two max_three min_three max_four min_four   -- for this text's walks alone
set_option linter.unusedVariables false
set_option linter.unusedSimpArgs false

/-! ### impl_pairs: function 86 (given) -/
/-- The places of a number in a list, the first one counted as i. -/
def placesFrom (n : Int) : Nat → List Int → List Int
  | _, [] => []
  | i, x :: l => if x = n then (i : Int) :: placesFrom n (i + 1) l else placesFrom n (i + 1) l
/-- The places of a number in a list. -/
def placesOf (l : List Int) (n : Int) : List Int := placesFrom n 0 l
/-- The places of a number; none of the hole. -/
def atOf (l : List Int) (k : Nat) : List Int := if k = 0 then [] else placesOf l k
/-- Each number stands twice or not at all. -/
def pairsOk (l : List Int) : Bool := (List.range 21).all fun k => (atOf l k).length == 0 || (atOf l k).length == 2
theorem placesFrom_snoc (n x : Int) : ∀ (l : List Int) (i : Nat), placesFrom n i (l ++ [x]) = placesFrom n i l ++ (if x = n then [((i + l.length : Nat) : Int)] else [])
  | [], i => by simp [placesFrom]
  | y :: l, i => by
    have ih := placesFrom_snoc n x l (i + 1)
    by_cases h : y = n <;> simp [placesFrom, h, ih] <;> (split <;> simp <;> omega)
theorem placesFrom_len (n : Int) : ∀ (l : List Int) (i : Nat), (placesFrom n i l).length ≤ l.length
  | [], i => by simp [placesFrom]
  | y :: l, i => by
    have ih := placesFrom_len n l (i + 1)
    unfold placesFrom
    split
    · simp; omega
    · simp; omega
theorem atOf_len (l : List Int) (k : Nat) : (atOf l k).length ≤ l.length := by
  unfold atOf
  split
  · simp
  · exact placesFrom_len _ _ _
theorem take_snoc (l : List Int) (k : Nat) (h : k < l.length) : l.take (k + 1) = l.take k ++ [rd l k] := by
  rw [rd_nat l k h, List.take_succ_eq_append_getElem h]
theorem atOf_step (l : List Int) (k n : Nat) (h : k < l.length) (hn : rd l k = n) (j : Nat) : atOf (l.take (k + 1)) j = if j = n ∧ 0 < n then atOf (l.take k) j ++ [(k : Int)] else atOf (l.take k) j := by
  rw [take_snoc l k h, hn]
  unfold atOf placesOf
  by_cases h0 : j = 0
  · subst h0
    rw [if_pos rfl, if_pos rfl, if_neg (by omega)]
  · rw [if_neg h0, if_neg h0, placesFrom_snoc]
    by_cases hj : j = n
    · subst hj
      rw [if_pos rfl, if_pos ⟨rfl, by omega⟩]
      simp [List.length_take]
      omega
    · rw [if_neg (by omega), if_neg (by omega)]
      simp
/-- The array's cells. -/
def arr21 (V : Nat → Value) : Array Value := ((List.range 21).map V).toArray
def updV {α : Type} (V : Nat → α) (n : Nat) (v : α) : Nat → α := fun k => if k = n then v else V k
theorem arr21_get (V : Nat → Value) (k : Nat) (h : k < 21) : (arr21 V)[k]? = some (V k) := by
  simp [arr21, h]
theorem arr21_size (V : Nat → Value) : (arr21 V).size = 21 := by simp [arr21]
theorem arr21_set (V : Nat → Value) (n : Nat) (v : Value) : (arr21 V).setIfInBounds n v = arr21 (updV V n v) := by
  apply Array.ext_getElem?
  intro i
  rw [Array.getElem?_setIfInBounds]
  by_cases h : n = i
  · subst h
    by_cases hn : n < 21
    · rw [if_pos rfl, if_pos (by rw [arr21_size]; exact hn), arr21_get _ _ hn]
      simp [updV]
    · rw [if_pos rfl, if_neg (by rw [arr21_size]; exact hn)]
      simp [hn, arr21]
  · rw [if_neg h]
    by_cases hi : i < 21
    · rw [arr21_get _ _ hi, arr21_get _ _ hi]
      simp [updV, Ne.symm h]
    · simp [arr21, hi]
theorem results_cell_tmp {P : Program} {fn : Func} {p q : Tmp} {ty : TypeId} (h : fn.results = #[.cell p ty, .tmp q]) (tmps : Array Value) (w : World) (g : Nat) (v : Value)
    (hp : tmps.getD p undef = .pointer (some ⟨g, 0, none⟩)) (hl : (loadVar ty ⟨g, 0, none⟩).run P w = .ok v w) :
    (results fn tmps).run P w = .ok (.tuple #[v, tmps.getD q undef]) w := by
  have hp' : tmps[p]?.getD undef = .pointer (some ⟨g, 0, none⟩) := by simpa using hp
  simp [results, h, hp', asAddr, hl, Sem.run_bind]
/-- The array of places at block g. -/
structure AtOk (B : Nat) (w : World) (g : Nat) (V : Nat → Value) (L : Nat → List Int) : Prop where
  blk : w.heap[g]? = some (.cells (arr21 V) 68 (0, 0))
  own : ∀ k, k < 21 → Kd.R (Kd.int .i64) 3 w B (fun _ => True) (V k) (L k)
  apart : ∀ j k, j < 21 → k < 21 → j ≠ k → ∀ b, (V j).ownBlock = some b → (V k).ownBlock ≠ some b
theorem AtOk.congr {B : Nat} {w : World} {g : Nat} {V : Nat → Value} {L L' : Nat → List Int} (h : AtOk B w g V L) (e : ∀ k, k < 21 → L k = L' k) : AtOk B w g V L' :=
  ⟨h.blk, fun k hk => e k hk ▸ h.own k hk, h.apart⟩
theorem AtOk.ne {B : Nat} {w : World} {g : Nat} {V : Nat → Value} {L : Nat → List Int} (h : AtOk B w g V L) (k : Nat) (hk : k < 21) : some g ≠ (V k).ownBlock := Kd.R_ne (h.own k hk) h.blk (by decide)
theorem AtOk.put {B : Nat} {w w1 : World} {g : Nat} {V : Nat → Value} {L : Nat → List Int} (h : AtOk B w g V L) (n : Nat) (hn : n < 21) {v1 : Value} {l1 : List Int} (hg : w.grownBy w1 (V n).ownBlock)
    (hat : v1.ownBlock = (V n).ownBlock ∨ ∃ b, v1.ownBlock = some b ∧ w.heap.size ≤ b) (ho : Kd.R (Kd.int .i64) 3 w1 B (fun _ => True) v1 l1) :
    AtOk B (w1.setCell ⟨g, n, none⟩ v1) g (updV V n v1) (updV L n l1) := by
  have hb1 := blk_grown h.blk hg (h.ne n hn)
  have hty : ∀ q, q ∈ 3 :: (Kd.int .i64).E → q ≠ 68 := by
    intro q hq
    simp [Kd.int, Kd.scalar] at hq
    omega
  refine ⟨?_, fun k hk => ?_, fun j k hj hk hjk b hb => ?_⟩
  · rw [← arr21_set]
    exact blk_set hb1 n v1
  · unfold updV
    by_cases e : k = n
    · rw [if_pos e, if_pos e]
      exact Kd.R_set ho hb1 hty n v1
    · rw [if_neg e, if_neg e]
      have hk1 : Kd.R (Kd.int .i64) 3 w1 B (fun _ => True) (V k) (L k) :=
        Kd.R_grown2 (h.own k hk) rfl hg (fun b hb e2 => h.apart n k hn hk (Ne.symm e) b hb e2.symm)
      exact Kd.R_set hk1 hb1 hty n v1
  · unfold updV at hb ⊢
    by_cases e1 : j = n
    · rw [if_pos e1] at hb
      rw [if_neg (fun e2 => hjk (e1.trans e2.symm))]
      intro hb2
      rcases hat with hat | ⟨b', hb', hle⟩
      · rw [hat] at hb
        exact h.apart n k hn hk (fun e2 => hjk (e1.trans e2)) b hb hb2
      · rw [hb'] at hb
        have := Kd.R_lt (h.own k hk) b hb2
        have : b' = b := Option.some.inj hb
        omega
    · rw [if_neg e1] at hb
      by_cases e2 : k = n
      · rw [if_pos e2]
        intro hb2
        rcases hat with hat | ⟨b', hb', hle⟩
        · rw [hat] at hb2
          exact h.apart j n hj hn e1 b hb hb2
        · rw [hb'] at hb2
          have := Kd.R_lt (h.own j hj) b hb
          have : b' = b := Option.some.inj hb2
          omega
      · rw [if_neg e2]
        exact h.apart j k hj hk hjk b hb
theorem AtOk.setRow {B : Nat} {w : World} {g g2 : Nat} {V : Nat → Value} {L : Nat → List Int} (h : AtOk B w g V L) {cs : Array Value} (hg : w.heap[g2]? = some (.cells cs 68 (0, 0))) (cs' : Array Value) :
    ∀ k, k < 21 → Kd.R (Kd.int .i64) 3 (w.setRow g2 cs') B (fun _ => True) (V k) (L k) := by
  intro k hk
  have hty : ∀ q, q ∈ 3 :: (Kd.int .i64).E → q ≠ 68 := by
    intro q hq
    simp [Kd.int, Kd.scalar] at hq
    omega
  exact Kd.R_mono (Kd.R_step (Kd.R_types (h.own k hk) hg hty) (fun b hb _ => setRow_other w g2 b cs' hb.2)) (fun _ hb => hb.1)
theorem run_index_arr21 (w : World) (V : Nat → Value) (j : Nat) (hj : j < 21) (hV : (V j).oneCell' = true) : (Instr.index 68 (.agg (arr21 V)) (.int .i64 (j : Int))).run Try.prog w = .ok (V j) w := by
  have hu := Try.underlying68
  have he := Try.underlying25
  have hs : (Try.prog.info? 25).map (·.size) = some 1 := by kernel_rfl
  obtain ⟨i0, hi, hs1⟩ := Option.map_eq_some_iff.1 hs
  have hg := arr21_get V j hj
  have h1 : (0 : Int) ≤ (j : Int) ∧ (j : Int) < ((21 : Nat) : Int) := by omega
  have hk : (0 ≤ (j : Int) ∧ (j : Int) < ((21 : Nat) : Int)) := by omega
  unfold Instr.index
  simp only [asIntOf, Sem.run_bind, Sem.run_pure, Result.andThen_ok, run_underlying hu, if_pos hk, sizeOf, typeInfo, hi, hs1, part, isAgg, run_underlying he]
  simp [hg, hi, hs1]
theorem own_oneCell {w : World} {B e : Nat} {v : Value} {l : List Int} (h : Kd.R (Kd.int .i64) e w B (fun _ => True) v l) : v.oneCell' = true := by
  obtain ⟨A, c, rfl⟩ := Kd.R_slice h
  rfl
set_option maxHeartbeats 4000000 in
set_option maxRecDepth 100000 in
theorem impl_pairs.calls (A0 : Option Addr) (c0 : Nat) (l0 : List Int) (w : World) (hr0 : Kd.C (Kd.int .i64) w A0 l0.length l0) (hl : l0.length ≤ 40) (hm : ∀ x ∈ l0, 0 ≤ x ∧ x ≤ 20) :
    Calls Try.prog 86 #[.slice A0 l0.length c0] w fun e w' => ∃ V : Nat → Value, e = .returned (.tuple #[.agg (arr21 V), .bool (pairsOk l0)]) ∧ (∀ k, k < 21 → Kd.R (Kd.int .i64) 3 w' w.heap.size (fun _ => True) (V k) (atOf l0 k)) ∧ Below w.heap.size w w' := by
  have HR0 := Aside0.mk hr0
  have HM := Aside0.mk hm
  have HL := Aside0.mk hl
  clear hr0 hm
  go_enter Try.func86, Try.ntmps86
  go_wp2_with fail
  go_loopw [11] (fun i wr => ∃ (k : Nat) (V : Nat → Value), k ≤ l0.length ∧ i = .int .i64 k ∧ Aside0 (AtOk w.heap.size wr (w.heap.size + 1) V (atOf (l0.take k))) ∧ Aside0 (Below w.heap.size w wr) ∧ Aside0 (wr.heap[w.heap.size]? = some (.cells (arr21 (fun _ => .slice none 0 0)) 68 (0, 0)))) (fun i _ => l0.length - (intOf i).toNat)
  case atStart =>
    refine ⟨0, fun _ => .slice none 0 0, Nat.zero_le _, rfl, ⟨⟨?_, ?_, ?_⟩⟩, ⟨?_⟩, ⟨?_⟩⟩
    · exact heap_alloc2_new w _ _
    · intro k hk
      have : atOf (l0.take 0) k = [] := by simp [atOf, placesOf, placesFrom]
      rw [this]
      exact Kd.R_nil _ _ _ _ _
    · intro j k _ _ _ b hb
      simp [Value.ownBlock] at hb
    · exact below_alloc (below_alloc (Below.refl _ _) _) _
    · exact heap_alloc2_old w _ _
  case round =>
    obtain ⟨k, V, hk, rfl, HA, HB, HG⟩ := hrel
    by_cases hlt : k < l0.length
    · obtain ⟨ad, e, hx⟩ := Kd.at_int HR0.out (k : Int) (by omega) (by omega)
      cases e
      replace hx := (HB.out.cell (World.block_lt_of_cell? w _ hx)).trans hx
      obtain ⟨n, hn, hn20⟩ : ∃ n : Nat, rd l0 k = (n : Int) ∧ n ≤ 20 := by
        have h := HM.out (rd l0 k) (by rw [rd_nat l0 k hlt]; exact List.getElem_mem hlt)
        exact ⟨(rd l0 k).toNat, by omega, by omega⟩
      rw [hn, Int.toNat_natCast] at hx
      have HN := Aside0.mk hn
      have HS := Aside0.mk (atOf_step l0 k n hlt hn)
      clear hn
      have hc := blk_cell HA.out.blk n
      rw [arr21_get V n (by omega)] at hc
      have hf := blk_frozen HA.out.blk n
      have HO := Aside0.mk (HA.out.own n (by omega))
      have HNE := Aside0.mk (HA.out.ne n (by omega))
      have LM := Aside0.mk (show ((atOf (l0.take k) n).length + 1) * 8 ≤ 140737488355328 from by have h1 := atOf_len (l0.take k) n; have h2 := HL.out; have h3 := List.length_take_le k l0; omega)
      have HS0 := Aside0.mk (show w.heap.size ≤ wr.heap.size from HB.out.size)
      by_cases hpos : 0 < n
      · go_wp2_with (first | ((with_reducible refine gate_builtin (b := .append) (xs := #[.tmp 21, .tmp 23]) rfl ?_); at_builtin; refine Kd.R_append (Kd.int .i64) (w0 := w) w.heap.size rfl (.tmp 21) (.tmp 23) 25 3 (.int .i64 0) 8 rfl Try.underlying25 info3 rfl (by decide) (by omega) (V n) (atOf (l0.take k) n) (k : Int) [.int .i64 (k : Int)] (fun _ => True) (fun _ => False) rfl rfl rfl (fun _ hk => hk.elim) (fun _ _ => trivial) HO.out HB.out HS0.out LM.out ?_; intro v1 w1 ho hb hg hat; obtain ⟨A1, c1, hv⟩ := Kd.R_slice ho; rw [List.length_append, List.length_singleton] at hv; subst hv; have HP := Aside0.mk (HA.out.put n (by omega) hg hat ho); have hb1 := blk_grown HA.out.blk hg HNE.out; have hc1 := blk_cell hb1 n; have hf1 := blk_frozen hb1 n; rw [arr21_get V n (by omega)] at hc1; have HG1 := Aside0.mk (blk_grown HG.out hg (Kd.R_ne HO.out HG.out (by decide))); have HB1 := Aside0.mk hb; clear hb1 ho hb hg hat hc hf))
        go_roundw
        case rel =>
          refine ⟨k + 1, _, by omega, by go_num, ⟨HP.out.congr (fun j _ => ?_)⟩, ⟨?_⟩, ⟨?_⟩⟩
          · rw [HS.out j]
            unfold updV
            by_cases e : j = n
            · subst e
              rw [if_pos rfl, if_pos ⟨rfl, hpos⟩]
            · rw [if_neg e, if_neg (fun h => e h.1)]
          · exact below_set HB1.out (Nat.le_succ _)
          · exact blk_far HG1.out (by simp) _
        case measure => simp [intOf]; omega
      · have h0 : n = 0 := by omega
        go_wp2_with fail
        go_roundw
        case rel =>
          refine ⟨k + 1, V, by omega, by go_num, ⟨HA.out.congr (fun j _ => ?_)⟩, ⟨HB.out⟩, ⟨HG.out⟩⟩
          rw [HS.out j, if_neg (fun h => hpos h.2)]
        case measure => simp [intOf]; omega
    · have hkl : k = l0.length := by omega
      have HKL := Aside0.mk hkl
      clear hkl
      have HA2 := Aside0.mk (HA.out.congr (L' := atOf l0) (fun j _ => by rw [HKL.out, List.take_length]))
      clear HA HKL
      have hu := Try.underlying68
      have hsz : (Try.prog.info? 68).map (·.size) = some (arr21 V).size := by rw [arr21_size]; kernel_rfl
      go_wp2_with (first | ((with_reducible refine gate_dst (N := 27) rfl ?_); refine wpList_load_row rfl 68 (.tmp 4) rfl (w.heap.size + 1) rfl 68 (arr21 V) (0, 0) _ HA2.out.blk hu rfl hsz ?_))
      have hold : (arr21 (fun _ => .slice none 0 0)).size = (arr21 V).size := by rw [arr21_size, arr21_size]
      have HALL := Aside0.mk (show (arr21 V).all (·.oneCell') = true from by
        rw [Array.all_eq_true_iff_forall_mem]
        intro x hx
        simp only [arr21, List.mem_toArray, List.mem_map, List.mem_range] at hx
        obtain ⟨q, hq, rfl⟩ := hx
        exact own_oneCell (HA2.out.own q hq))
      have HV := Aside0.mk (show ∀ j : Nat, j < 21 → ∃ A c, ∀ W : World, (Instr.index 68 (.agg (arr21 V)) (.int .i64 (j : Int))).run Try.prog W = .ok (.slice A (atOf l0 j).length c) W from fun j hj => by
        obtain ⟨A, c, e⟩ := Kd.R_slice (HA2.out.own j hj)
        exact ⟨A, c, fun W => by rw [run_index_arr21 W V j hj (own_oneCell (HA2.out.own j hj)), e]⟩)
      go_loop [28] (fun i => ∃ j : Nat, j ≤ 21 ∧ i = .int .i64 j ∧ Aside0 (∀ q, q < j → ((atOf l0 q).length == 0 || (atOf l0 q).length == 2) = true)) (fun i => 21 - (intOf i).toNat)
      case atStart => exact ⟨0, by omega, rfl, ⟨fun q hq => by omega⟩⟩
      case round =>
        obtain ⟨j, hj, rfl, HQ⟩ := hrel
        by_cases hlt : j < 21
        · obtain ⟨A, c, hix⟩ := HV.out j hlt
          by_cases h0 : (atOf l0 j).length = 0
          · have b0 : (((atOf l0 j).length : Int) != 0) = false := by rw [h0]; rfl
            have b0' : (((atOf l0 j).length : Int) == 0) = true := by rw [h0]; rfl
            have H0 := Aside0.mk h0
            clear h0
            go_wp2_with fail
            go_round
            case rel => exact ⟨j + 1, by omega, by go_num, ⟨fun q hq => by
              by_cases e : q = j
              · subst e; rw [H0.out]; rfl
              · exact HQ.out q (by omega)⟩⟩
            case measure => simp [intOf]; omega
          · by_cases h2 : (atOf l0 j).length = 2
            · have b0 : (((atOf l0 j).length : Int) != 0) = true := by rw [h2]; rfl
              have b2 : (((atOf l0 j).length : Int) != 2) = false := by rw [h2]; rfl
              have H2 := Aside0.mk h2
              clear h2
              go_wp2_with fail
              go_round
              case rel => exact ⟨j + 1, by omega, by go_num, ⟨fun q hq => by
                by_cases e : q = j
                · subst e; rw [H2.out]; rfl
                · exact HQ.out q (by omega)⟩⟩
              case measure => simp [intOf]; omega
            · have b0 : (((atOf l0 j).length : Int) != 0) = true := by rw [bne_iff_ne]; omega
              have b2 : (((atOf l0 j).length : Int) != 2) = true := by rw [bne_iff_ne]; omega
              have HNO := Aside0.mk (show pairsOk l0 = false from by
                unfold pairsOk
                rw [List.all_eq_false]
                exact ⟨j, List.mem_range.2 hlt, by simp [h0, h2]⟩)
              clear h0 h2
              go_wp2_with (first | ((with_reducible refine gate_dst (N := 39) rfl ?_); refine wpList_load_row rfl 68 (.tmp 4) rfl (w.heap.size + 1) rfl 68 (arr21 V) (0, 0) _ HA2.out.blk hu rfl hsz ?_) | ((with_reducible refine gate_store (t := 68) (p := 2) rfl ?_); refine wpList_store_row rfl 68 (.tmp 2) (.tmp 39) rfl w.heap.size (arr21 V) rfl rfl 68 (arr21 (fun _ => .slice none 0 0)) HG.out hsz hold HALL.out ?_))
              have hres := run_loadVar_row (P := Try.prog) (wr.setRow w.heap.size (arr21 V)) w.heap.size 68 68 (arr21 V) (0, 0) _ (setRow_heap _ _ _ _ _ _ HG.out) hu rfl hsz
              refine bodyPost_ret (v := .tuple #[.agg (arr21 V), .bool false]) (results_cell_tmp Try.results86 _ _ w.heap.size _ rfl hres) rfl ⟨V, by rw [HNO.out], ?_, ?_⟩
              · exact AtOk.setRow HA2.out HG.out _
              · exact below_setRow HB.out (Nat.le_refl _) _
        · have HYES := Aside0.mk (show pairsOk l0 = true from by
            unfold pairsOk
            rw [List.all_eq_true]
            intro q hq
            exact HQ.out q (by have := List.mem_range.1 hq; omega))
          go_wp2_with (first | ((with_reducible refine gate_dst (N := 41) rfl ?_); refine wpList_load_row rfl 68 (.tmp 4) rfl (w.heap.size + 1) rfl 68 (arr21 V) (0, 0) _ HA2.out.blk hu rfl hsz ?_) | ((with_reducible refine gate_store (t := 68) (p := 2) rfl ?_); refine wpList_store_row rfl 68 (.tmp 2) (.tmp 41) rfl w.heap.size (arr21 V) rfl rfl 68 (arr21 (fun _ => .slice none 0 0)) HG.out hsz hold HALL.out ?_))
          have hres := run_loadVar_row (P := Try.prog) (wr.setRow w.heap.size (arr21 V)) w.heap.size 68 68 (arr21 V) (0, 0) _ (setRow_heap _ _ _ _ _ _ HG.out) hu rfl hsz
          refine bodyPost_ret (v := .tuple #[.agg (arr21 V), .bool true]) (results_cell_tmp Try.results86 _ _ w.heap.size _ rfl hres) rfl ⟨V, by rw [HYES.out], ?_, ?_⟩
          · exact AtOk.setRow HA2.out HG.out _
          · exact below_setRow HB.out (Nat.le_refl _) _


end Go.Proofs.Ytmphbmpnenekgaa.Fn
namespace Go.Proofs.Ytmphbmpnenekgaa.Fn
open Go.RowKit Go.Proofs.YtmphbmpnenekgaaW.PrintWords Go.Proofs.YtmphbmpnenekgaaW.PrintLast Go.Proofs.YtmphbmpnenekgaaW.PrintMore
attribute [local go_sem] max2_int min2_int max_two min_two max_three min_three max_four min_four   -- for this text's walks alone
set_option linter.unusedVariables false
set_option linter.unusedSimpArgs false

/-! ### impl_isPairs: function 66 (given) -/
def impl_isPairs.f (k : Nat) (l0 : List Int) : Option (Bool) := (impl_IsRow.f k l0).bind fun t1 => (if t1 = true then (some (pairsOk l0)) else (some false))
theorem impl_isPairs.mono : ∀ a0 k, LeO (impl_isPairs.f k a0) (impl_isPairs.f (k + 1) a0) := by
  intro a0 k
  unfold impl_isPairs.f
  refine LeO.bind (impl_IsRow.mono _ _) (fun _ => LeO.refl _)
/-- A row, out of the function's answer. -/
theorem impl_IsRow.l0_row (l : List Int) : ∀ (k : Nat) (n : Nat) (i : Int), 0 ≤ i → (l.length : Int) - i ≤ n → l.length ≤ 9223372036854775807 → impl_IsRow.l0 k l l (l.length : Int) i = some true → l.length ≤ 40 ∧ ∀ j : Nat, i ≤ (j : Int) → j < l.length → 0 ≤ rd l j ∧ rd l j ≤ 20
  | 0, n, i, h0, hn, hl, h => by simp [impl_IsRow.l0] at h
  | k + 1, n, i, h0, hn, hl, h => by
    rw [impl_IsRow.l0] at h
    by_cases h1 : i < (l.length : Int)
    · rw [if_pos h1, if_pos h0, if_pos h1] at h
      by_cases h2 : rd l i < 0
      · rw [if_pos h2] at h
        simp at h
      · rw [if_neg h2] at h
        by_cases h3 : rd l i > 20
        · rw [if_pos h3] at h
          simp at h
        · rw [if_neg h3, wrap_in (n := i + 1) (by omega) (by omega)] at h
          obtain ⟨g1, g2⟩ := impl_IsRow.l0_row l k (n - 1) (i + 1) (by omega) (by omega) hl h
          refine ⟨g1, fun j hj hjl => ?_⟩
          by_cases e : (j : Int) = i
          · rw [e]
            omega
          · exact g2 j (by omega) hjl
    · rw [if_neg h1] at h
      have := of_decide_eq_true (Option.some.inj h)
      exact ⟨by omega, fun j hj hjl => by omega⟩
theorem impl_IsRow.f_row (k : Nat) (l : List Int) (hl : l.length ≤ 9223372036854775807) (h : impl_IsRow.f k l = some true) : l.length ≤ 40 ∧ ∀ x ∈ l, 0 ≤ x ∧ x ≤ 20 := by
  obtain ⟨g1, g2⟩ := impl_IsRow.l0_row l k l.length 0 (by omega) (by omega) hl h
  refine ⟨g1, fun x hx => ?_⟩
  obtain ⟨j, hj, rfl⟩ := List.getElem_of_mem hx
  have := g2 j (by omega) hj
  rwa [rd_nat l j hj] at this
theorem arr21_oneCell {w : World} {B : Nat} {V : Nat → Value} {L : Nat → List Int} (h : ∀ k, k < 21 → Kd.R (Kd.int .i64) 3 w B (fun _ => True) (V k) (L k)) : (arr21 V).all (·.oneCell') = true := by
  rw [Array.all_eq_true_iff_forall_mem]
  intro x hx
  simp only [arr21, List.mem_toArray, List.mem_map, List.mem_range] at hx
  obtain ⟨q, hq, rfl⟩ := hx
  exact own_oneCell (h q hq)
theorem cells_max {w : World} {A : Option Addr} {n : Nat} {l : List Int} (h : Kd.C (Kd.int .i64) w A n l) : l.length ≤ 9223372036854775807 := by
  have h1 := Kd.C_len h
  have h2 := Kd.C_max h
  omega
set_option maxHeartbeats 4000000 in
set_option maxRecDepth 100000 in
theorem impl_isPairs.calls (k : Nat) (A0 : Option Addr) (c0 : Nat) (l0 : List Int) (r : Bool) (w : World) (hr0 : Kd.C (Kd.int .i64) w A0 l0.length l0) (hc0 : l0.length ≤ c0) (h : impl_isPairs.f k l0 = some r) :
    Calls Try.prog 66 #[.slice A0 l0.length c0] w fun e w' => e = .returned (.bool r) ∧ Below w.heap.size w w' := by
  have HR0 := Aside0.mk hr0
  have HC0 := Aside0.mk hc0
  obtain ⟨t1, hA, h⟩ := Option.bind_eq_some_iff.1 h
  have A1 := Aside0.mk hA
  cases t1 with
  | false =>
    rw [if_neg (by decide)] at h
    obtain rfl := Option.some.inj h
    clear hr0 hc0 hA h
    go_enter Try.func66, Try.ntmps66
    go_wp2_with (first | (go_at_call 51; refine (impl_IsRow.calls k _ _ l0 false _ HR0.out HC0.out A1.out).mono ?_; rintro e w' ⟨rfl, ⟨nd, rfl⟩⟩))
    go_ret
    exact ⟨rfl, pw_below_drewN (Below.refl _ _) _⟩
  | true =>
    rw [if_pos rfl] at h
    obtain rfl := Option.some.inj h
    have HROW := Aside0.mk (show l0.length ≤ 40 ∧ ∀ x ∈ l0, 0 ≤ x ∧ x ≤ 20 from impl_IsRow.f_row k l0 (cells_max hr0) hA)
    clear hr0 hc0 hA h
    have hu := Try.underlying68
    go_enter Try.func66, Try.ntmps66
    go_wp2_with (first | (go_at_call 51; refine (impl_IsRow.calls k _ _ l0 true _ HR0.out HC0.out A1.out).mono ?_; rintro e w' ⟨rfl, ⟨nd, rfl⟩⟩) | (go_at_call 86; refine (impl_pairs.calls _ _ l0 _ (Kd.C_drewN HR0.out nd) HROW.out.1 HROW.out.2).mono ?_; rintro e w1 ⟨V, rfl, hV, hB⟩; have HV := Aside0.mk hV; have HALL := Aside0.mk (arr21_oneCell hV); have HB := Aside0.mk hB; clear hV hB) | ((with_reducible refine gate_store (t := 68) (p := 3) rfl ?_); refine wpList_store_row rfl 68 (.tmp 3) (.tmp 11) rfl w1.heap.size (arr21 V) rfl rfl 68 _ (heap_alloc_new _ _) (by rw [arr21_size]; kernel_rfl) (by rw [arr21_size]; rfl) HALL.out ?_))
    go_ret
    exact ⟨rfl, below_setRow (below_alloc (below_step (pw_below_drewN (Below.refl _ _) _) HB.out) _) (below_size (below_step (pw_below_drewN (Below.refl _ _) nd) HB.out)) _⟩

noncomputable def impl_isPairs.F (l0 : List Int) : Option (Bool) := lim fun k => impl_isPairs.f k l0
theorem impl_isPairs.F_lim (l0 : List Int) : Lim (fun k => impl_isPairs.f k l0) (impl_isPairs.F l0) := Lim.of fun k => impl_isPairs.mono l0 k
theorem impl_isPairs.F_eq (l0 : List Int) : impl_isPairs.F l0 = ((impl_IsRow.F l0).bind fun t1 => (if t1 = true then (some (pairsOk l0)) else (some false))) :=
  Lim.unique (impl_isPairs.F_lim l0) (by
    unfold impl_isPairs.f
    repeat' first
    | (with_reducible exact Lim.const _)
    | (with_reducible exact impl_IsRow.F_lim _)
    | (with_reducible refine Lim.ite ?_ ?_)
    | (with_reducible refine Lim.bind ?_ (fun _ => ?_)))

end Go.Proofs.Ytmphbmpnenekgaa.Fn
namespace Go.Proofs.Ytmphbmpnenekgaa.Fn
open Go.RowKit Go.Proofs.YtmphbmpnenekgaaW.PrintWords Go.Proofs.YtmphbmpnenekgaaW.PrintLast Go.Proofs.YtmphbmpnenekgaaW.PrintMore
attribute [local go_sem] max2_int min2_int max_two min_two max_three min_three max_four min_four   -- for this text's walks alone
set_option linter.unusedVariables false
set_option linter.unusedSimpArgs false

/-! ### impl_fits: function 62 (given) -/
/-- The distance of each number that stands twice is the number and the shift together. -/
def fitsAt (l : List Int) (s : Int) : Bool := (List.range 21).all fun n => !((atOf l n).length == 2 && (wrap64 (rd (atOf l n) 1 - rd (atOf l n) 0) != wrap64 ((n : Int) + s)))
def impl_fits.f (k : Nat) (l0 : List Int) (a1 : Int) : Option (Bool) := (impl_isPairs.f k l0).bind fun t1 => (if t1 = true then (some (fitsAt l0 a1)) else (some false))
theorem impl_fits.mono : ∀ a0 a1 k, LeO (impl_fits.f k a0 a1) (impl_fits.f (k + 1) a0 a1) := by
  intro a0 a1 k
  unfold impl_fits.f
  refine LeO.bind (impl_isPairs.mono _ _) (fun _ => LeO.refl _)
theorem impl_isPairs.f_row (k : Nat) (l : List Int) (hl : l.length ≤ 9223372036854775807) (h : impl_isPairs.f k l = some true) : l.length ≤ 40 ∧ ∀ x ∈ l, 0 ≤ x ∧ x ≤ 20 := by
  obtain ⟨t1, hA, h⟩ := Option.bind_eq_some_iff.1 h
  cases t1 with
  | false => rw [if_neg (by decide)] at h; simp at h
  | true => exact impl_IsRow.f_row k l hl hA
theorem arr21_R_setRow {B : Nat} {w : World} {v : Value} {l : List Int} (h : Kd.R (Kd.int .i64) 3 w B (fun _ => True) v l) (o : Obj) (cs : Array Value) : Kd.R (Kd.int .i64) 3 ((w.alloc o).setRow w.heap.size cs) B (fun _ => True) v l :=
  Kd.R_mono (Kd.R_step (Kd.R_bound h) (fun b hb _ => by rw [setRow_other _ _ _ _ (by have := hb.2.2.1; omega), Below.heap_alloc _ _ _ hb.2.2.1])) (fun _ hb => hb.1)
set_option maxHeartbeats 4000000 in
set_option maxRecDepth 100000 in
theorem impl_fits.calls (k : Nat) (A0 : Option Addr) (c0 : Nat) (l0 : List Int) (a1 : Int) (r : Bool) (w : World) (hr0 : Kd.C (Kd.int .i64) w A0 l0.length l0) (hc0 : l0.length ≤ c0) (h : impl_fits.f k l0 a1 = some r) :
    Calls Try.prog 62 #[.slice A0 l0.length c0, .int .i64 a1] w fun e w' => e = .returned (.bool r) ∧ Below w.heap.size w w' := by
  have HR0 := Aside0.mk hr0
  have HC0 := Aside0.mk hc0
  obtain ⟨t1, hA, h⟩ := Option.bind_eq_some_iff.1 h
  have A1 := Aside0.mk hA
  cases t1 with
  | false =>
    rw [if_neg (by decide)] at h
    obtain rfl := Option.some.inj h
    clear hr0 hc0 hA h
    go_enter Try.func62, Try.ntmps62
    go_wp2_with (first | (go_at_call 66; refine (impl_isPairs.calls k _ _ l0 false _ HR0.out HC0.out A1.out).mono ?_; rintro e w0 ⟨rfl, hB⟩; have HB := Aside0.mk hB; clear hB))
    go_ret
    exact ⟨rfl, HB.out⟩
  | true =>
    rw [if_pos rfl] at h
    obtain rfl := Option.some.inj h
    have HROW := Aside0.mk (impl_isPairs.f_row k l0 (cells_max hr0) hA)
    clear hr0 hc0 hA h
    have hu := Try.underlying68
    go_enter Try.func62, Try.ntmps62
    go_wp2_with (first | (go_at_call 66; refine (impl_isPairs.calls k _ _ l0 true _ HR0.out HC0.out A1.out).mono ?_; rintro e w0 ⟨rfl, hB⟩; have HB0 := Aside0.mk hB; clear hB) | (go_at_call 86; refine (impl_pairs.calls _ _ l0 _ (Kd.C_below HR0.out HB0.out) HROW.out.1 HROW.out.2).mono ?_; rintro e w1 ⟨V, rfl, hV, hB⟩; have HV := Aside0.mk hV; have HALL := Aside0.mk (arr21_oneCell hV); have HB := Aside0.mk (below_step HB0.out hB); clear hV hB) | ((with_reducible refine gate_store (t := 68) (p := 5) rfl ?_); refine wpList_store_row rfl 68 (.tmp 5) (.tmp 15) rfl w1.heap.size (arr21 V) rfl rfl 68 _ (heap_alloc_new _ _) (by rw [arr21_size]; kernel_rfl) (by rw [arr21_size]; rfl) HALL.out ?_) | ((with_reducible refine gate_dst (N := 17) rfl ?_); refine wpList_load_row rfl 68 (.tmp 5) rfl w1.heap.size rfl 68 (arr21 V) (0, 0) _ (setRow_heap _ _ _ _ _ _ (heap_alloc_new _ _)) hu rfl (by rw [arr21_size]; kernel_rfl) ?_))
    have hW1 := below_setRow (below_alloc HB.out (.cells #[.slice none 0 0, .slice none 0 0, .slice none 0 0, .slice none 0 0, .slice none 0 0, .slice none 0 0, .slice none 0 0, .slice none 0 0, .slice none 0 0, .slice none 0 0, .slice none 0 0, .slice none 0 0, .slice none 0 0, .slice none 0 0, .slice none 0 0, .slice none 0 0, .slice none 0 0, .slice none 0 0, .slice none 0 0, .slice none 0 0, .slice none 0 0] 68)) (below_size HB.out) (arr21 V)
    have hW2 := fun k hk => arr21_R_setRow (HV.out k hk) (.cells #[.slice none 0 0, .slice none 0 0, .slice none 0 0, .slice none 0 0, .slice none 0 0, .slice none 0 0, .slice none 0 0, .slice none 0 0, .slice none 0 0, .slice none 0 0, .slice none 0 0, .slice none 0 0, .slice none 0 0, .slice none 0 0, .slice none 0 0, .slice none 0 0, .slice none 0 0, .slice none 0 0, .slice none 0 0, .slice none 0 0, .slice none 0 0] 68) (arr21 V)
    generalize World.setRow _ w1.heap.size (arr21 V) = W at hW1 hW2 ⊢
    have HW1 := Aside0.mk hW1
    have HW2 := Aside0.mk hW2
    clear hW1 hW2 HV HB HALL
    go_loopw [18] (fun i wr => ∃ j : Nat, j ≤ 21 ∧ i = .int .i64 j ∧ Aside0 (Drawn0 W wr) ∧ Aside0 (∀ q, q < j → (!((atOf l0 q).length == 2 && (wrap64 (rd (atOf l0 q) 1 - rd (atOf l0 q) 0) != wrap64 ((q : Int) + a1)))) = true)) (fun i _ => 21 - (intOf i).toNat)
    case atStart => exact ⟨0, by omega, rfl, ⟨Drawn0.refl _⟩, ⟨fun q hq => by omega⟩⟩
    case round =>
      obtain ⟨j, hj, rfl, HD, HQ⟩ := hrel
      obtain ⟨⟨nd2, rfl⟩⟩ := HD
      by_cases hlt : j < 21
      · by_cases h2 : (atOf l0 j).length = 2
        · obtain ⟨g, cap, hv, _, hg, cells, hh⟩ := Kd.R_form (HW2.out j hlt) (by omega)
          have hR := HW2.out j hlt
          have hix := fun U => run_index_arr21 U V j hlt (own_oneCell hR)
          rw [hv] at hR
          rw [hv, h2] at hix
          have hx0 := (Kd.R_celln 0 hR 0 (by omega) (by omega)).1
          have hx1 := (Kd.R_celln 0 hR 1 (by omega) (by omega)).1
          have b2 : ((2 : Int) == 2) = true := rfl
          generalize e0 : rd (atOf l0 j) 0 = x0
          generalize e1 : rd (atOf l0 j) 1 = x1
          replace hx0 : W.cell? ⟨g, 0, none⟩ = some (.int .i64 x0) := by rw [← e0]; exact hx0
          replace hx1 : W.cell? ⟨g, 1, none⟩ = some (.int .i64 x1) := by rw [← e1]; exact hx1
          have H2 := Aside0.mk h2
          have E0 := Aside0.mk e0
          have E1 := Aside0.mk e1
          clear hR hv hh hg h2 e0 e1
          by_cases hne : wrap64 (x1 - x0) = wrap64 ((j : Int) + a1)
          · have b3 : (wrap64 (x1 - x0) != wrap64 ((j : Int) + a1)) = false := bne_eq_false_iff_eq.mpr hne
            clear hne
            have B3 := Aside0.mk b3
            go_wp2_with fail
            go_quiet (fail)
            go_wp2_with fail
            go_roundw
            case rel => exact ⟨j + 1, by omega, by go_num, by (first | exact ⟨⟨⟨_, rfl⟩⟩⟩ | exact ⟨⟨⟨_, World.drewN_drewN ..⟩⟩⟩), ⟨fun q hq => by
              by_cases e : q = j
              · subst e
                rw [E0.out, E1.out, B3.out, Bool.and_false]
                rfl
              · exact HQ.out q (by omega)⟩⟩
            case measure => simp [intOf]; omega
          · have b3 : (wrap64 (x1 - x0) != wrap64 ((j : Int) + a1)) = true := bne_iff_ne.mpr hne
            clear hne
            have HNO := Aside0.mk (show fitsAt l0 a1 = false from by
              unfold fitsAt
              rw [List.all_eq_false]
              exact ⟨j, List.mem_range.2 hlt, by rw [E0.out, E1.out, b3, H2.out]; decide⟩)
            go_wp2_with fail
            go_quiet (fail)
            go_wp2_with fail
            go_ret
            exact ⟨by rw [HNO.out]; rfl, by repeat (first | exact HW1.out | apply pw_below_drewN)⟩
        · obtain ⟨A, cap, hv⟩ := Kd.R_slice (HW2.out j hlt)
          have hix := fun U => run_index_arr21 U V j hlt (own_oneCell (HW2.out j hlt))
          rw [hv] at hix
          have b2 : (((atOf l0 j).length : Int) == 2) = false := by rw [beq_eq_false_iff_ne]; omega
          have B2 := Aside0.mk (show ((atOf l0 j).length == 2) = false from by rw [beq_eq_false_iff_ne]; exact h2)
          clear h2 hv
          go_wp2_with fail
          go_quiet (fail)
          go_wp2_with fail
          go_roundw
          case rel => exact ⟨j + 1, by omega, by go_num, by (first | exact ⟨⟨⟨_, rfl⟩⟩⟩ | exact ⟨⟨⟨_, World.drewN_drewN ..⟩⟩⟩), ⟨fun q hq => by
            by_cases e : q = j
            · subst e
              rw [B2.out, Bool.false_and]
              rfl
            · exact HQ.out q (by omega)⟩⟩
          case measure => simp [intOf]; omega
      · have HYES := Aside0.mk (show fitsAt l0 a1 = true from by
          unfold fitsAt
          rw [List.all_eq_true]
          intro q hq
          exact HQ.out q (by have := List.mem_range.1 hq; omega))
        go_wp2_with fail
        go_ret
        exact ⟨by rw [HYES.out]; rfl, by repeat (first | exact HW1.out | apply pw_below_drewN)⟩

noncomputable def impl_fits.F (l0 : List Int) (a1 : Int) : Option (Bool) := lim fun k => impl_fits.f k l0 a1
theorem impl_fits.F_lim (l0 : List Int) (a1 : Int) : Lim (fun k => impl_fits.f k l0 a1) (impl_fits.F l0 a1) := Lim.of fun k => impl_fits.mono l0 a1 k
theorem impl_fits.F_eq (l0 : List Int) (a1 : Int) : impl_fits.F l0 a1 = ((impl_isPairs.F l0).bind fun t1 => (if t1 = true then (some (fitsAt l0 a1)) else (some false))) :=
  Lim.unique (impl_fits.F_lim l0 a1) (by
    unfold impl_fits.f
    repeat' first
    | (with_reducible exact Lim.const _)
    | (with_reducible exact impl_isPairs.F_lim _)
    | (with_reducible refine Lim.ite ?_ ?_)
    | (with_reducible refine Lim.bind ?_ (fun _ => ?_)))

end Go.Proofs.Ytmphbmpnenekgaa.Fn
namespace Go.Proofs.Ytmphbmpnenekgaa.Fn
open Go.RowKit Go.Proofs.YtmphbmpnenekgaaW.PrintWords Go.Proofs.YtmphbmpnenekgaaW.PrintLast Go.Proofs.YtmphbmpnenekgaaW.PrintMore
attribute [local go_sem] max2_int min2_int max_two min_two max_three min_three max_four min_four   -- for this text's walks alone
set_option linter.unusedVariables false
set_option linter.unusedSimpArgs false

/-! ### slices_Clone_int_int: function 53 (given) -/
def slices_Clone_int_int.f (l0 : List Int) : Option (List Int) := if l0.length < 17592186044416 then some l0 else none
theorem slices_Clone_int_int.app_room {y l : List Int} (h1 : l.length < 17592186044416) (h2 : y = []) : (y.length + l.length) * 8 ≤ 140737488355328 := by
  subst h2; simp; omega
set_option maxHeartbeats 8000000 in
set_option maxRecDepth 100000 in
theorem slices_Clone_int_int.calls (A0 : Option Addr) (c0 : Nat) (l0 : List Int) (r : List Int) (w : World) (hr0 : Kd.C (Kd.int .i64) w A0 l0.length l0) (hc0 : l0.length ≤ c0) (h : slices_Clone_int_int.f l0 = some r) :
    Calls Try.prog 53 #[.slice A0 l0.length c0] w fun e w' => ∃ v0_ : Value, e = .returned (v0_) ∧ Kd.R (Kd.int .i64) 3 w' w.heap.size (fun _ => True) v0_ r ∧ Below w.heap.size w w' := by
  have HR0 := Aside0.mk hr0
  have hlen : l0.length < 17592186044416 := by
    unfold slices_Clone_int_int.f at h
    split at h
    · assumption
    · cases h
  obtain rfl : l0 = r := by
    unfold slices_Clone_int_int.f at h
    rw [if_pos hlen] at h
    exact Option.some.inj h
  have LM := Aside0.mk hlen
  have HB := Aside0.mk (Below.refl w.heap.size w)
  have hu := Try.underlying25
  have heq := fun (w : World) => Lib.run_eql_slice_nil (P := Try.prog) w 25 3 A0 l0.length c0 0 0 hu
  clear h hlen hc0
  cases A0 with
  | none =>
    have hl : l0 = [] := by
      cases l0 with
      | nil => rfl
      | cons x xs =>
        obtain ⟨ad, e, _⟩ := hr0.2.2 (by simp)
        cases e
    have HL := Aside0.mk hl
    clear hr0 hl
    go_enter Try.func53, Try.ntmps53
    go_wp2
    go_ret
    exact ⟨_, rfl, by rw [HL.out]; exact Kd.R_nil _ _ _ _ _, by repeat (first | (with_reducible first | exact HB.out | apply below_alloc | apply pw_below_drewN | apply below_drew1) | exact HB.out)⟩
  | some ad =>
    clear hr0
    obtain ⟨y113, hy113⟩ : ∃ y_ : List Int, y_ = (([] : List Int)) := ⟨_, rfl⟩
    have Ny113 := Aside0.mk hy113
    clear hy113
    obtain ⟨y116, hy116⟩ : ∃ y_ : List Int, y_ = (y113 ++ l0) := ⟨_, rfl⟩
    have Ny116 := Aside0.mk hy116
    clear hy116
    go_enter Try.func53, Try.ntmps53
    go_wp2_with (first | ((with_reducible refine gate_dst (N := 5) rfl ?_); refine Kd.R_lit (Kd.int .i64) _ 3 ?hg (N := 5) ?hd (xs := ([] : List Int)) (inner := []) (ok := fun _ => True) (okp := fun _ => True) ?hr ?hp (fun _ hk => hk) trivial (Below.refl _ _) (Nat.le_refl _) (by simp) ?_; (case hd => rfl); (case hg => rfl); (case hr => first | (go_simp; done) | (go_simp; rfl)); (case hp => exact (Reps.none _ _)); intro v114 w3 ho4 hb hg_ hnew_; clear hg_ hnew_; (first | rw [← Ny113.out] at ho4 | (simp only [Int.reduceToNat] at ho4; rw [← Ny113.out] at ho4)); have n0_ := Aside0.mk (Kd.R_lower ho4 (below_size (by repeat (first | (with_reducible first | exact HB.out | apply below_alloc | apply pw_below_drewN | apply below_drew1) | exact HB.out)))); have n1_ := Aside0.mk (below_step (by repeat (first | (with_reducible first | exact HB.out | apply below_alloc | apply pw_below_drewN | apply below_drew1) | exact HB.out)) hb); clear HB; have HO115 := n0_; have HB := n1_; clear n0_ n1_; clear hb ho4) | ((with_reducible refine gate_builtin (b := .append) (xs := #[.tmp 5, .tmp 6]) rfl ?_); at_builtin; refine Kd.R_append_rows (Kd.int .i64) (w0 := w) w.heap.size rfl (.tmp 5) (.tmp 6) 25 3 (.int .i64 0) 8 rfl Try.underlying25 info3 rfl (by decide) (by omega) v114 y113 l0 _ _ _ (fun _ => True) (fun _ => False) rfl rfl ?aO ?aR (fun _ _ h => h) (fun _ h => h.elim) ?aF ?aB ?aS ?aL ?_; (case aR => repeat (first | exact (Kd.C_below HR0.out HB.out) | (with_reducible refine Kd.C_alloc ?_ _) | (with_reducible refine Kd.C_drewN ?_ _) | (with_reducible refine Kd.C_drew ?_))); (case aB => exact (by repeat (first | (with_reducible first | exact HB.out | apply below_alloc | apply pw_below_drewN | apply below_drew1) | exact HB.out))); (case aF => exact (fun _ _ => trivial)); (case aO => exact (by (with_reducible repeat (first | apply Kd.R_alloc | apply Kd.R_drewN | apply Kd.R_drew)); exact HO115.out)); (case aS => exact (below_size (by repeat (first | (with_reducible first | exact HB.out | apply below_alloc | apply pw_below_drewN | apply below_drew1) | exact HB.out)))); (case aL => exact slices_Clone_int_int.app_room LM.out Ny113.out); intro v117 w5 ho hb hg hat; rw [← Ny116.out] at ho; have n0_ := Aside0.mk (hb); have n1_ := Aside0.mk (ho); clear HB; clear HO115; have HB := n0_; have HO118 := n1_; clear n0_ n1_; clear ho hb hg hat))
    go_ret
    exact ⟨_, rfl, by (with_reducible repeat (first | apply Kd.R_alloc | apply Kd.R_drewN | apply Kd.R_drew)); have h := HO118.out; rw [Ny116.out, Ny113.out, List.nil_append] at h; exact h, by repeat (first | (with_reducible first | exact HB.out | apply below_alloc | apply pw_below_drewN | apply below_drew1) | exact HB.out)⟩


end Go.Proofs.Ytmphbmpnenekgaa.Fn
namespace Go.Proofs.Ytmphbmpnenekgaa.Fn
open Go.RowKit Go.Proofs.YtmphbmpnenekgaaW.PrintWords Go.Proofs.YtmphbmpnenekgaaW.PrintLast Go.Proofs.YtmphbmpnenekgaaW.PrintMore
attribute [local go_sem] max2_int min2_int max_two min_two max_three min_three max_four min_four   -- for this text's walks alone
set_option linter.unusedVariables false
set_option linter.unusedSimpArgs false

/-! ### impl_holes: function 90 -/
def impl_holes.l0 : Nat → List Int → List Int → Int → Int → Option (List Int)
  | 0, _, _, _, _ => none
  | k + 1, x3, x6, x7, x8 => if x8 < x7 then (if 0 ≤ x8 then (if x8 < (x6.length : Int) then (if (rd x6 x8) = 0 then (if x3.length < 17592186044416 then (impl_holes.l0 k (x3 ++ [x8]) x6 x7 (wrap64 (x8 + 1))) else (none)) else (impl_holes.l0 k x3 x6 x7 (wrap64 (x8 + 1)))) else (none)) else (none)) else (some x3)
def impl_holes.f (k : Nat) (l0 : List Int) : Option (List Int) := impl_holes.l0 k ([] : List Int) l0 (l0.length : Int) 0
theorem impl_holes.mono_l : ∀ k, (∀ y0 y1 y2 y3, LeO (impl_holes.l0 k y0 y1 y2 y3) (impl_holes.l0 (k + 1) y0 y1 y2 y3))
  | 0 => fun _ _ _ _ r h => by simp [impl_holes.l0] at h
  | k + 1 => by
    have ih0 := impl_holes.mono_l k
    · intro y0 y1 y2 y3
      unfold impl_holes.l0
      repeat' first
      | (with_reducible exact ih0 _ _ _ _)
      | (with_reducible exact LeO.refl _)
      | (with_reducible exact LeO.none _)
      | (with_reducible refine LeO.ite ?_ ?_)
      | (with_reducible refine LeO.bind ?_ (fun _ => ?_))
      | exact ih0 _ _ _ _
      | exact LeO.none _
      | refine LeO.ite ?_ ?_
      | refine LeO.bind ?_ (fun _ => ?_)
theorem impl_holes.mono : ∀ a0 k, LeO (impl_holes.f k a0) (impl_holes.f (k + 1) a0) := by
  intro a0 k
  have ih0 := impl_holes.mono_l k
  unfold impl_holes.f
  repeat' first
      | (with_reducible exact ih0 _ _ _ _)
      | (with_reducible exact LeO.refl _)
      | (with_reducible exact LeO.none _)
      | (with_reducible refine LeO.ite ?_ ?_)
      | (with_reducible refine LeO.bind ?_ (fun _ => ?_))
      | exact ih0 _ _ _ _
      | exact LeO.none _
      | refine LeO.ite ?_ ?_
      | refine LeO.bind ?_ (fun _ => ?_)
set_option maxHeartbeats 8000000 in
set_option maxRecDepth 100000 in
theorem impl_holes.calls (k : Nat) (A0 : Option Addr) (c0 : Nat) (l0 : List Int) (r : List Int) (w : World) (hr0 : Kd.C (Kd.int .i64) w A0 l0.length l0) (hc0 : l0.length ≤ c0) (h : impl_holes.f k l0 = some r) :
    Calls Try.prog 90 #[.slice A0 l0.length c0] w fun e w' => ∃ v0_ : Value, e = .returned (v0_) ∧ Kd.R (Kd.int .i64) 3 w' w.heap.size (fun _ => True) v0_ r ∧ Below w.heap.size w w' := by
  have HR0 := Aside0.mk hr0
  have HC0 := Aside0.mk hc0
  clear hr0 hc0
  have HB := Aside0.mk (Below.refl w.heap.size w)
  have H : (impl_holes.l0 k ([] : List Int) l0 (l0.length : Int) 0) = some r := h
  clear h
  have H' := Aside0.mk H
  clear H
  go_enter Try.func90, Try.ntmps90
  go_wp2
  go_loopg [3, 8] k (fun kq v3 v8 w' => ∃ (x3_1 : List Int) (x8_1 : Int), v8 = .int .i64 x8_1 ∧ Aside0 (impl_holes.l0 kq x3_1 l0 (l0.length : Int) x8_1 = some r) ∧ Aside0 (kq ≤ k) ∧ Aside0 (Kd.R (Kd.int .i64) 3 w' w.heap.size (fun _ => True) v3 x3_1) ∧ Aside0 (Below w.heap.size w w'))
  case atStart => exact ⟨(([] : List Int)), (0), (by first | rfl | (simp; done) | (simp [*]; done)), H', ⟨Nat.le_refl _⟩, ⟨by first | exact Kd.R_nil _ _ _ _ _ | exact Kd.N_nil _ _ _ _ _ | exact Kd.V_nil _ _ _ _ _ | exact Kd.Q_nil _ _ _ _ _ | exact Kd.S_nil _ _ _ _ _⟩, ⟨by repeat (first | (with_reducible first | exact HB.out | apply below_alloc | apply pw_below_drewN | apply below_drew1) | exact HB.out)⟩⟩
  case round =>
    clear H'
    obtain ⟨x3_1, x8_1, rfl, HA, HK1, HO_3, HB⟩ := hrel
    cases gk with
    | zero => exact absurd HA.out (by simp [impl_holes.l0])
    | succ k1 =>
      have H := HA.out
      clear HA
      simp only [impl_holes.l0] at H
      by_cases c2 : x8_1 < (l0.length : Int)
      · rw [if_pos c2] at H
        have c2b0 : decide (x8_1 < (l0.length : Int)) = true := decide_eq_true c2
        clear c2
        by_cases c3 : 0 ≤ x8_1
        · rw [if_pos c3] at H
          have c3b0 : decide (0 ≤ x8_1) = true := decide_eq_true c3
          clear c3
          by_cases c4 : x8_1 < (l0.length : Int)
          · rw [if_pos c4] at H
            have c4b0 : decide (x8_1 < (l0.length : Int)) = true := decide_eq_true c4
            clear c4
            by_cases c5 : (rd l0 x8_1) = 0
            · rw [if_pos c5] at H
              have c5b0 : ((rd l0 x8_1) == 0) = true := beq_iff_eq.mpr c5
              have c5b1 : ((rd l0 x8_1) != 0) = false := bne_eq_false_iff_eq.mpr c5
              clear c5
              by_cases c6 : x3_1.length < 17592186044416
              · rw [if_pos c6] at H
                have LMc6 := Aside0.mk c6
                clear c6
                obtain ⟨y456, hy456⟩ : ∃ y_ : List Int, y_ = (x3_1 ++ [x8_1]) := ⟨_, rfl⟩
                replace H : (impl_holes.l0 k1 y456 l0 (l0.length : Int) (wrap64 (x8_1 + 1))) = some r := by first | (rw [hy456]; with_reducible exact H) | (have H2_ := (Option.bind_some _ _).symm.trans H; rw [hy456]; with_reducible exact H2_) | (have H2_ := (Option.bind_some _ _).symm.trans H; with_reducible exact H2_) | with_reducible exact H | (rw [hy456]; exact H) | exact H
                have Ny456 := Aside0.mk hy456
                clear hy456
                have H' := Aside0.mk H
                clear H
                have p455 : 0 ≤ (x8_1 : Int) := of_decide_eq_true (by first | (with_reducible assumption) | assumption)
                have q455 : x8_1 < (l0.length : Int) := of_decide_eq_true (by first | (with_reducible assumption) | assumption)
                obtain ⟨ad455, e455, hx455_0⟩ := Kd.at_int HR0.out x8_1 p455 q455
                cases e455
                replace hx455_0 := (HB.out.cell (World.block_lt_of_cell? w _ hx455_0)).trans hx455_0
                replace p455 := eq_true p455
                replace q455 := eq_true q455
                go_wp2_with (first | ((with_reducible refine gate_builtin (b := .append) (xs := #[.tmp 15, .tmp 17]) rfl ?_); at_builtin; refine Kd.R_append (Kd.int .i64) (w0 := w) w.heap.size rfl (.tmp 15) (.tmp 17) 25 3 (.int .i64 0) 8 rfl Try.underlying25 info3 rfl (by decide) (by omega) u3 x3_1 x8_1 [.int .i64 x8_1] (fun _ => True) (fun _ => False) rfl rfl ?aP (fun _ hk => hk.elim) ?aF ?aO ?aB ?aS ?aL ?_; (case aP => exact rfl); (case aB => exact (by repeat (first | (with_reducible first | exact HB.out | apply below_alloc | apply pw_below_drewN | apply below_drew1) | exact HB.out))); (case aF => exact (fun _ _ => trivial)); (case aO => exact (by (with_reducible repeat (first | apply Kd.R_alloc | apply Kd.R_drewN | apply Kd.R_drew)); exact HO_3.out)); (case aS => exact (below_size (by repeat (first | (with_reducible first | exact HB.out | apply below_alloc | apply pw_below_drewN | apply below_drew1) | exact HB.out)))); (case aL => have := LMc6.out; omega); intro v457 w7 ho hb hg hat; rw [← Ny456.out] at ho; have n0_ := Aside0.mk (hb); have n1_ := Aside0.mk (ho); clear HB; clear HO_3; have HB := n0_; have HO458 := n1_; clear n0_ n1_; clear ho hb hg hat))
                go_roundg k1
                case measure => have := HK1.out; omega
                case rel => exact ⟨(y456), (wrap64 (x8_1 + 1)), (by first | rfl | (simp; done) | (simp [*]; done)), H', ⟨by have := HK1.out; omega⟩, ⟨by (with_reducible repeat (first | apply Kd.R_alloc | apply Kd.R_drewN | apply Kd.R_drew)); exact HO458.out⟩, ⟨by repeat (first | (with_reducible first | exact HB.out | apply below_alloc | apply pw_below_drewN | apply below_drew1) | exact HB.out)⟩⟩
              · rw [if_neg c6] at H
                exact absurd H (by simp)
            · rw [if_neg c5] at H
              have c5b0 : ((rd l0 x8_1) == 0) = false := beq_eq_false_iff_ne.mpr c5
              have c5b1 : ((rd l0 x8_1) != 0) = true := bne_iff_ne.mpr c5
              have H' := Aside0.mk H
              clear H
              have p455 : 0 ≤ (x8_1 : Int) := of_decide_eq_true (by first | (with_reducible assumption) | assumption)
              have q455 : x8_1 < (l0.length : Int) := of_decide_eq_true (by first | (with_reducible assumption) | assumption)
              obtain ⟨ad455, e455, hx455_0⟩ := Kd.at_int HR0.out x8_1 p455 q455
              cases e455
              replace hx455_0 := (HB.out.cell (World.block_lt_of_cell? w _ hx455_0)).trans hx455_0
              replace p455 := eq_true p455
              replace q455 := eq_true q455
              go_wp2
              go_roundg k1
              case measure => have := HK1.out; omega
              case rel => exact ⟨(x3_1), (wrap64 (x8_1 + 1)), (by first | rfl | (simp; done) | (simp [*]; done)), H', ⟨by have := HK1.out; omega⟩, ⟨by (with_reducible repeat (first | apply Kd.R_alloc | apply Kd.R_drewN | apply Kd.R_drew)); exact HO_3.out⟩, ⟨by repeat (first | (with_reducible first | exact HB.out | apply below_alloc | apply pw_below_drewN | apply below_drew1) | exact HB.out)⟩⟩
          · rw [if_neg c4] at H
            exact absurd H (by simp)
        · rw [if_neg c3] at H
          exact absurd H (by simp)
      · rw [if_neg c2] at H
        have c2b0 : decide (x8_1 < (l0.length : Int)) = false := decide_eq_false c2
        clear c2
        obtain rfl := Option.some.inj H
        go_wp2
        go_ret
        exact ⟨_, by first | rfl | (simp [errW_none, errW_some] <;> rfl) | (simp [*, errW_none, errW_some] <;> rfl), by (with_reducible repeat (first | apply Kd.R_alloc | apply Kd.R_drewN | apply Kd.R_drew)); exact HO_3.out, by repeat (first | (with_reducible first | exact HB.out | apply below_alloc | apply pw_below_drewN | apply below_drew1) | exact HB.out)⟩

noncomputable def impl_holes.L0 (x3 : List Int) (x6 : List Int) (x7 : Int) (x8 : Int) : Option (List Int) := lim fun k => impl_holes.l0 k x3 x6 x7 x8
theorem impl_holes.L0_lim (x3 : List Int) (x6 : List Int) (x7 : Int) (x8 : Int) : Lim (fun k => impl_holes.l0 k x3 x6 x7 x8) (impl_holes.L0 x3 x6 x7 x8) := Lim.of fun k => (impl_holes.mono_l k) x3 x6 x7 x8
noncomputable def impl_holes.F (l0 : List Int) : Option (List Int) := lim fun k => impl_holes.f k l0
theorem impl_holes.F_lim (l0 : List Int) : Lim (fun k => impl_holes.f k l0) (impl_holes.F l0) := Lim.of fun k => impl_holes.mono l0 k
theorem impl_holes.L0_eq (x3 : List Int) (x6 : List Int) (x7 : Int) (x8 : Int) : impl_holes.L0 x3 x6 x7 x8 = (if x8 < x7 then (if 0 ≤ x8 then (if x8 < (x6.length : Int) then (if (rd x6 x8) = 0 then (if x3.length < 17592186044416 then (impl_holes.L0 (x3 ++ [x8]) x6 x7 (wrap64 (x8 + 1))) else (none)) else (impl_holes.L0 x3 x6 x7 (wrap64 (x8 + 1)))) else (none)) else (none)) else (some x3)) :=
  Lim.step (f := fun k => (if x8 < x7 then (if 0 ≤ x8 then (if x8 < (x6.length : Int) then (if (rd x6 x8) = 0 then (if x3.length < 17592186044416 then (impl_holes.l0 k (x3 ++ [x8]) x6 x7 (wrap64 (x8 + 1))) else (none)) else (impl_holes.l0 k x3 x6 x7 (wrap64 (x8 + 1)))) else (none)) else (none)) else (some x3))) (impl_holes.L0_lim x3 x6 x7 x8) (fun k => by first | rfl | rw [impl_holes.l0]) (by
    repeat' first
    | (with_reducible exact Lim.const _)
    | (with_reducible exact impl_holes.L0_lim _ _ _ _)
    | (with_reducible refine Lim.ite ?_ ?_)
    | (with_reducible refine Lim.bind ?_ (fun _ => ?_)))
theorem impl_holes.F_eq (l0 : List Int) : impl_holes.F l0 = (impl_holes.L0 ([] : List Int) l0 (l0.length : Int) 0) :=
  Lim.unique (impl_holes.F_lim l0) (by
    unfold impl_holes.f
    repeat' first
    | (with_reducible exact Lim.const _)
    | (with_reducible exact impl_holes.L0_lim _ _ _ _)
    | (with_reducible refine Lim.ite ?_ ?_)
    | (with_reducible refine Lim.bind ?_ (fun _ => ?_)))

end Go.Proofs.Ytmphbmpnenekgaa.Fn
namespace Go.Proofs.Ytmphbmpnenekgaa.Fn
open Go.RowKit Go.Proofs.YtmphbmpnenekgaaW.PrintWords Go.Proofs.YtmphbmpnenekgaaW.PrintLast Go.Proofs.YtmphbmpnenekgaaW.PrintMore
attribute [local go_sem] max2_int min2_int max_two min_two max_three min_three max_four min_four   -- for this text's walks alone
set_option linter.unusedVariables false
set_option linter.unusedSimpArgs false

/-! ### slices_Index_int_int: function 89 -/
def slices_Index_int_int.l0 : Nat → List Int → Int → Int → Int → Option (Int)
  | 0, _, _, _, _ => none
  | k + 1, x0, x1, x7, x8 => if x8 < x7 then (if 0 ≤ x8 then (if x8 < (x0.length : Int) then (if x1 = (rd x0 x8) then (some x8) else (slices_Index_int_int.l0 k x0 x1 x7 (wrap64 (x8 + 1)))) else (none)) else (none)) else (some (-1))
def slices_Index_int_int.f (k : Nat) (l0 : List Int) (a1 : Int) : Option (Int) := slices_Index_int_int.l0 k l0 a1 (l0.length : Int) 0
theorem slices_Index_int_int.mono_l : ∀ k, (∀ y0 y1 y2 y3, LeO (slices_Index_int_int.l0 k y0 y1 y2 y3) (slices_Index_int_int.l0 (k + 1) y0 y1 y2 y3))
  | 0 => fun _ _ _ _ r h => by simp [slices_Index_int_int.l0] at h
  | k + 1 => by
    have ih0 := slices_Index_int_int.mono_l k
    · intro y0 y1 y2 y3
      unfold slices_Index_int_int.l0
      repeat' first
      | (with_reducible exact ih0 _ _ _ _)
      | (with_reducible exact LeO.refl _)
      | (with_reducible exact LeO.none _)
      | (with_reducible refine LeO.ite ?_ ?_)
      | (with_reducible refine LeO.bind ?_ (fun _ => ?_))
      | exact ih0 _ _ _ _
      | exact LeO.none _
      | refine LeO.ite ?_ ?_
      | refine LeO.bind ?_ (fun _ => ?_)
theorem slices_Index_int_int.mono : ∀ a0 a1 k, LeO (slices_Index_int_int.f k a0 a1) (slices_Index_int_int.f (k + 1) a0 a1) := by
  intro a0 a1 k
  have ih0 := slices_Index_int_int.mono_l k
  unfold slices_Index_int_int.f
  repeat' first
      | (with_reducible exact ih0 _ _ _ _)
      | (with_reducible exact LeO.refl _)
      | (with_reducible exact LeO.none _)
      | (with_reducible refine LeO.ite ?_ ?_)
      | (with_reducible refine LeO.bind ?_ (fun _ => ?_))
      | exact ih0 _ _ _ _
      | exact LeO.none _
      | refine LeO.ite ?_ ?_
      | refine LeO.bind ?_ (fun _ => ?_)
set_option maxHeartbeats 8000000 in
set_option maxRecDepth 100000 in
theorem slices_Index_int_int.calls (k : Nat) (A0 : Option Addr) (c0 : Nat) (l0 : List Int) (a1 : Int) (r : Int) (w : World) (hr0 : Kd.C (Kd.int .i64) w A0 l0.length l0) (hc0 : l0.length ≤ c0) (h : slices_Index_int_int.f k l0 a1 = some r) :
    Calls Try.prog 89 #[.slice A0 l0.length c0, .int .i64 a1] w fun e w' => e = .returned (.int .i64 r) ∧ Drawn0 w w' := by
  have HR0 := Aside0.mk hr0
  have HC0 := Aside0.mk hc0
  clear hr0 hc0
  have H : (slices_Index_int_int.l0 k l0 a1 (l0.length : Int) 0) = some r := h
  clear h
  have H' := Aside0.mk H
  clear H
  go_enter Try.func89, Try.ntmps89
  go_wp2
  go_loopg [8] k (fun kq v8 w' => ∃ (x8_1 : Int), v8 = .int .i64 x8_1 ∧ Aside0 (slices_Index_int_int.l0 kq l0 a1 (l0.length : Int) x8_1 = some r) ∧ Aside0 (kq ≤ k) ∧ Drawn0 w w')
  case atStart => exact ⟨(0), (by first | rfl | (simp; done) | (simp [*]; done)), H', ⟨Nat.le_refl _⟩, by repeat (first | exact Drawn0.refl _ | apply Drawn0.step)⟩
  case round =>
    clear H'
    try clear p2
    obtain ⟨x8_1, rfl, HA, HK1, ⟨m1, rfl⟩⟩ := hrel
    cases gk with
    | zero => exact absurd HA.out (by simp [slices_Index_int_int.l0])
    | succ k1 =>
      have H := HA.out
      clear HA
      simp only [slices_Index_int_int.l0] at H
      by_cases c3 : x8_1 < (l0.length : Int)
      · rw [if_pos c3] at H
        have c3b0 : decide (x8_1 < (l0.length : Int)) = true := decide_eq_true c3
        clear c3
        by_cases c4 : 0 ≤ x8_1
        · rw [if_pos c4] at H
          have c4b0 : decide (0 ≤ x8_1) = true := decide_eq_true c4
          clear c4
          by_cases c5 : x8_1 < (l0.length : Int)
          · rw [if_pos c5] at H
            have c5b0 : decide (x8_1 < (l0.length : Int)) = true := decide_eq_true c5
            clear c5
            by_cases c6 : a1 = (rd l0 x8_1)
            · rw [if_pos c6] at H
              have c6b0 : (a1 == (rd l0 x8_1)) = true := beq_iff_eq.mpr c6
              have c6b1 : (a1 != (rd l0 x8_1)) = false := bne_eq_false_iff_eq.mpr c6
              clear c6
              obtain rfl := Option.some.inj H
              have p384 : 0 ≤ (x8_1 : Int) := of_decide_eq_true (by first | (with_reducible assumption) | assumption)
              have q384 : x8_1 < (l0.length : Int) := of_decide_eq_true (by first | (with_reducible assumption) | assumption)
              obtain ⟨ad384, e384, hx384_0⟩ := Kd.at_int HR0.out x8_1 p384 q384
              cases e384
              replace p384 := eq_true p384
              replace q384 := eq_true q384
              go_wp2
              go_ret
              exact ⟨by first | rfl | (simp; done) | (simp [*]; done), by repeat (first | exact Drawn0.refl _ | apply Drawn0.step)⟩
            · rw [if_neg c6] at H
              have c6b0 : (a1 == (rd l0 x8_1)) = false := beq_eq_false_iff_ne.mpr c6
              have c6b1 : (a1 != (rd l0 x8_1)) = true := bne_iff_ne.mpr c6
              have H' := Aside0.mk H
              clear H
              have p384 : 0 ≤ (x8_1 : Int) := of_decide_eq_true (by first | (with_reducible assumption) | assumption)
              have q384 : x8_1 < (l0.length : Int) := of_decide_eq_true (by first | (with_reducible assumption) | assumption)
              obtain ⟨ad384, e384, hx384_0⟩ := Kd.at_int HR0.out x8_1 p384 q384
              cases e384
              replace p384 := eq_true p384
              replace q384 := eq_true q384
              go_wp2
              go_roundg k1
              case measure => have := HK1.out; omega
              case rel => exact ⟨(wrap64 (x8_1 + 1)), (by first | rfl | (simp; done) | (simp [*]; done)), H', ⟨by have := HK1.out; omega⟩, by repeat (first | exact Drawn0.refl _ | apply Drawn0.step)⟩
          · rw [if_neg c5] at H
            exact absurd H (by simp)
        · rw [if_neg c4] at H
          exact absurd H (by simp)
      · rw [if_neg c3] at H
        have c3b0 : decide (x8_1 < (l0.length : Int)) = false := decide_eq_false c3
        clear c3
        obtain rfl := Option.some.inj H
        go_wp2
        go_ret
        exact ⟨by first | rfl | (simp; done) | (simp [*]; done), by repeat (first | exact Drawn0.refl _ | apply Drawn0.step)⟩

noncomputable def slices_Index_int_int.L0 (x0 : List Int) (x1 : Int) (x7 : Int) (x8 : Int) : Option (Int) := lim fun k => slices_Index_int_int.l0 k x0 x1 x7 x8
theorem slices_Index_int_int.L0_lim (x0 : List Int) (x1 : Int) (x7 : Int) (x8 : Int) : Lim (fun k => slices_Index_int_int.l0 k x0 x1 x7 x8) (slices_Index_int_int.L0 x0 x1 x7 x8) := Lim.of fun k => (slices_Index_int_int.mono_l k) x0 x1 x7 x8
noncomputable def slices_Index_int_int.F (l0 : List Int) (a1 : Int) : Option (Int) := lim fun k => slices_Index_int_int.f k l0 a1
theorem slices_Index_int_int.F_lim (l0 : List Int) (a1 : Int) : Lim (fun k => slices_Index_int_int.f k l0 a1) (slices_Index_int_int.F l0 a1) := Lim.of fun k => slices_Index_int_int.mono l0 a1 k
theorem slices_Index_int_int.L0_eq (x0 : List Int) (x1 : Int) (x7 : Int) (x8 : Int) : slices_Index_int_int.L0 x0 x1 x7 x8 = (if x8 < x7 then (if 0 ≤ x8 then (if x8 < (x0.length : Int) then (if x1 = (rd x0 x8) then (some x8) else (slices_Index_int_int.L0 x0 x1 x7 (wrap64 (x8 + 1)))) else (none)) else (none)) else (some (-1))) :=
  Lim.step (f := fun k => (if x8 < x7 then (if 0 ≤ x8 then (if x8 < (x0.length : Int) then (if x1 = (rd x0 x8) then (some x8) else (slices_Index_int_int.l0 k x0 x1 x7 (wrap64 (x8 + 1)))) else (none)) else (none)) else (some (-1)))) (slices_Index_int_int.L0_lim x0 x1 x7 x8) (fun k => by first | rfl | rw [slices_Index_int_int.l0]) (by
    repeat' first
    | (with_reducible exact Lim.const _)
    | (with_reducible exact slices_Index_int_int.L0_lim _ _ _ _)
    | (with_reducible refine Lim.ite ?_ ?_)
    | (with_reducible refine Lim.bind ?_ (fun _ => ?_)))
theorem slices_Index_int_int.F_eq (l0 : List Int) (a1 : Int) : slices_Index_int_int.F l0 a1 = (slices_Index_int_int.L0 l0 a1 (l0.length : Int) 0) :=
  Lim.unique (slices_Index_int_int.F_lim l0 a1) (by
    unfold slices_Index_int_int.f
    repeat' first
    | (with_reducible exact Lim.const _)
    | (with_reducible exact slices_Index_int_int.L0_lim _ _ _ _)
    | (with_reducible refine Lim.ite ?_ ?_)
    | (with_reducible refine Lim.bind ?_ (fun _ => ?_)))

end Go.Proofs.Ytmphbmpnenekgaa.Fn
namespace Go.Proofs.Ytmphbmpnenekgaa.Fn
open Go.RowKit Go.Proofs.YtmphbmpnenekgaaW.PrintWords Go.Proofs.YtmphbmpnenekgaaW.PrintLast Go.Proofs.YtmphbmpnenekgaaW.PrintMore
attribute [local go_sem] max2_int min2_int max_two min_two max_three min_three max_four min_four   -- for this text's walks alone
set_option linter.unusedVariables false
set_option linter.unusedSimpArgs false

/-! ### slices_Contains_int_int: function 67 -/
def slices_Contains_int_int.f (k : Nat) (l0 : List Int) (a1 : Int) : Option (Bool) := (slices_Index_int_int.f k l0 a1).bind fun t385 => (some (decide (t385 ≥ 0)))
theorem slices_Contains_int_int.mono : ∀ a0 a1 k, LeO (slices_Contains_int_int.f k a0 a1) (slices_Contains_int_int.f (k + 1) a0 a1) := by
  intro a0 a1 k
  unfold slices_Contains_int_int.f
  repeat' first
      | (with_reducible exact slices_Index_int_int.mono _ _ _)
      | (with_reducible exact LeO.refl _)
      | (with_reducible exact LeO.none _)
      | (with_reducible refine LeO.ite ?_ ?_)
      | (with_reducible refine LeO.bind ?_ (fun _ => ?_))
      | exact slices_Index_int_int.mono _ _ _
      | exact LeO.none _
      | refine LeO.ite ?_ ?_
      | refine LeO.bind ?_ (fun _ => ?_)
set_option maxHeartbeats 8000000 in
set_option maxRecDepth 100000 in
theorem slices_Contains_int_int.calls (k : Nat) (A0 : Option Addr) (c0 : Nat) (l0 : List Int) (a1 : Int) (r : Bool) (w : World) (hr0 : Kd.C (Kd.int .i64) w A0 l0.length l0) (hc0 : l0.length ≤ c0) (h : slices_Contains_int_int.f k l0 a1 = some r) :
    Calls Try.prog 67 #[.slice A0 l0.length c0, .int .i64 a1] w fun e w' => e = .returned (.bool r) ∧ Drawn0 w w' := by
  have HR0 := Aside0.mk hr0
  have HC0 := Aside0.mk hc0
  clear hr0 hc0
  have H : ((slices_Index_int_int.f k l0 a1).bind fun t385 => (some (decide (t385 ≥ 0)))) = some r := h
  clear h
  replace H := Option.bind_eq_some_iff.mp H
  obtain ⟨t385, A30, H⟩ := H
  replace H : (some (decide (t385 ≥ 0))) = some r := H
  have A3 := Aside0.mk A30
  clear A30
  obtain rfl := Option.some.inj H
  go_enter Try.func67, Try.ntmps67
  go_wp2_with (first | ((with_reducible refine gate_callee (f := 89) rfl ?_); refine goesL_ (some 7) rfl rfl Try.func89 (by kernel_rfl) rfl #[.slice A0 l0.length c0, .int .i64 a1] rfl (by (try simp only [List.map_toArray, List.map_cons, List.map_nil]); first | done | rfl | (simp only [List.length_drop, List.length_take]; rfl)) ?_; (with_reducible refine (slices_Index_int_int.calls k _ _ l0 a1 t385 _ ?side1 ?side2 A3.out).mono ?_); (case side1 => repeat (first | exact HR0.out | (with_reducible refine Kd.C_alloc ?_ _) | (with_reducible refine Kd.C_drewN ?_ _) | (with_reducible refine Kd.C_drew ?_))); (case side2 => exact HC0.out); rintro e w' ⟨rfl, ⟨nd, rfl⟩⟩; refine ⟨_, rfl, ?_⟩))
  go_ret
  exact ⟨by first | rfl | (simp; done) | (simp [*]; done), by repeat (first | exact Drawn0.refl _ | apply Drawn0.step)⟩

noncomputable def slices_Contains_int_int.F (l0 : List Int) (a1 : Int) : Option (Bool) := lim fun k => slices_Contains_int_int.f k l0 a1
theorem slices_Contains_int_int.F_lim (l0 : List Int) (a1 : Int) : Lim (fun k => slices_Contains_int_int.f k l0 a1) (slices_Contains_int_int.F l0 a1) := Lim.of fun k => slices_Contains_int_int.mono l0 a1 k
theorem slices_Contains_int_int.F_eq (l0 : List Int) (a1 : Int) : slices_Contains_int_int.F l0 a1 = ((slices_Index_int_int.F l0 a1).bind fun t385 => (some (decide (t385 ≥ 0)))) :=
  Lim.unique (slices_Contains_int_int.F_lim l0 a1) (by
    unfold slices_Contains_int_int.f
    repeat' first
    | (with_reducible exact Lim.const _)
    | (with_reducible exact slices_Index_int_int.F_lim _ _)
    | (with_reducible refine Lim.ite ?_ ?_)
    | (with_reducible refine Lim.bind ?_ (fun _ => ?_)))

end Go.Proofs.Ytmphbmpnenekgaa.Fn
namespace Go.Proofs.Ytmphbmpnenekgaa.Fn
open Go.RowKit Go.Proofs.YtmphbmpnenekgaaW.PrintWords Go.Proofs.YtmphbmpnenekgaaW.PrintLast Go.Proofs.YtmphbmpnenekgaaW.PrintMore
attribute [local go_sem] max2_int min2_int max_two min_two max_three min_three max_four min_four   -- for this text's walks alone
set_option linter.unusedVariables false
set_option linter.unusedSimpArgs false

/-! ### impl_numbers: function 95 -/
def impl_numbers.l0 : Nat → List Int → List Int → Int → Option (List Int)
  | 0, _, _, _ => none
  | k + 1, x0, x3, x4 => if x4 ≤ 20 then ((slices_Contains_int_int.f k x0 x4).bind fun t459 => (if t459 = true then (if x3.length < 17592186044416 then (impl_numbers.l0 k x0 (x3 ++ [x4]) (wrap64 (x4 + 1))) else (none)) else (impl_numbers.l0 k x0 x3 (wrap64 (x4 + 1))))) else (some x3)
def impl_numbers.f (k : Nat) (l0 : List Int) : Option (List Int) := impl_numbers.l0 k l0 ([] : List Int) 1
theorem impl_numbers.mono_l : ∀ k, (∀ y0 y1 y2, LeO (impl_numbers.l0 k y0 y1 y2) (impl_numbers.l0 (k + 1) y0 y1 y2))
  | 0 => fun _ _ _ r h => by simp [impl_numbers.l0] at h
  | k + 1 => by
    have ih0 := impl_numbers.mono_l k
    · intro y0 y1 y2
      unfold impl_numbers.l0
      repeat' first
      | (with_reducible exact ih0 _ _ _)
      | (with_reducible exact slices_Contains_int_int.mono _ _ _)
      | (with_reducible exact LeO.refl _)
      | (with_reducible exact LeO.none _)
      | (with_reducible refine LeO.ite ?_ ?_)
      | (with_reducible refine LeO.bind ?_ (fun _ => ?_))
      | exact ih0 _ _ _
      | exact slices_Contains_int_int.mono _ _ _
      | exact LeO.none _
      | refine LeO.ite ?_ ?_
      | refine LeO.bind ?_ (fun _ => ?_)
theorem impl_numbers.mono : ∀ a0 k, LeO (impl_numbers.f k a0) (impl_numbers.f (k + 1) a0) := by
  intro a0 k
  have ih0 := impl_numbers.mono_l k
  unfold impl_numbers.f
  repeat' first
      | (with_reducible exact ih0 _ _ _)
      | (with_reducible exact slices_Contains_int_int.mono _ _ _)
      | (with_reducible exact LeO.refl _)
      | (with_reducible exact LeO.none _)
      | (with_reducible refine LeO.ite ?_ ?_)
      | (with_reducible refine LeO.bind ?_ (fun _ => ?_))
      | exact ih0 _ _ _
      | exact slices_Contains_int_int.mono _ _ _
      | exact LeO.none _
      | refine LeO.ite ?_ ?_
      | refine LeO.bind ?_ (fun _ => ?_)
set_option maxHeartbeats 8000000 in
set_option maxRecDepth 100000 in
theorem impl_numbers.calls (k : Nat) (A0 : Option Addr) (c0 : Nat) (l0 : List Int) (r : List Int) (w : World) (hr0 : Kd.C (Kd.int .i64) w A0 l0.length l0) (hc0 : l0.length ≤ c0) (h : impl_numbers.f k l0 = some r) :
    Calls Try.prog 95 #[.slice A0 l0.length c0] w fun e w' => ∃ v0_ : Value, e = .returned (v0_) ∧ Kd.R (Kd.int .i64) 3 w' w.heap.size (fun _ => True) v0_ r ∧ Below w.heap.size w w' := by
  have HR0 := Aside0.mk hr0
  have HC0 := Aside0.mk hc0
  clear hr0 hc0
  have HB := Aside0.mk (Below.refl w.heap.size w)
  have H : (impl_numbers.l0 k l0 ([] : List Int) 1) = some r := h
  clear h
  have H' := Aside0.mk H
  clear H
  go_enter Try.func95, Try.ntmps95
  go_wp2
  go_loopg [3, 4] k (fun kq v3 v4 w' => ∃ (x3_1 : List Int) (x4_1 : Int), v4 = .int .i64 x4_1 ∧ Aside0 (impl_numbers.l0 kq l0 x3_1 x4_1 = some r) ∧ Aside0 (kq ≤ k) ∧ Aside0 (Kd.R (Kd.int .i64) 3 w' w.heap.size (fun _ => True) v3 x3_1) ∧ Aside0 (Below w.heap.size w w'))
  case atStart => exact ⟨(([] : List Int)), (1), (by first | rfl | (simp; done) | (simp [*]; done)), H', ⟨Nat.le_refl _⟩, ⟨by first | exact Kd.R_nil _ _ _ _ _ | exact Kd.N_nil _ _ _ _ _ | exact Kd.V_nil _ _ _ _ _ | exact Kd.Q_nil _ _ _ _ _ | exact Kd.S_nil _ _ _ _ _⟩, ⟨by repeat (first | (with_reducible first | exact HB.out | apply below_alloc | apply pw_below_drewN | apply below_drew1) | exact HB.out)⟩⟩
  case round =>
    clear H'
    obtain ⟨x3_1, x4_1, rfl, HA, HK1, HO_3, HB⟩ := hrel
    cases gk with
    | zero => exact absurd HA.out (by simp [impl_numbers.l0])
    | succ k1 =>
      have H := HA.out
      clear HA
      simp only [impl_numbers.l0] at H
      by_cases c2 : x4_1 ≤ 20
      · rw [if_pos c2] at H
        have c2b0 : decide (x4_1 ≤ 20) = true := decide_eq_true c2
        clear c2
        replace H := Option.bind_eq_some_iff.mp H
        obtain ⟨t459, A30, H⟩ := H
        replace H : (if t459 = true then (if x3_1.length < 17592186044416 then (impl_numbers.l0 k1 l0 (x3_1 ++ [x4_1]) (wrap64 (x4_1 + 1))) else (none)) else (impl_numbers.l0 k1 l0 x3_1 (wrap64 (x4_1 + 1)))) = some r := H
        have A3 := Aside0.mk A30
        clear A30
        by_cases c4 : t459 = true
        · subst c4
          have H1 : (if x3_1.length < 17592186044416 then (impl_numbers.l0 k1 l0 (x3_1 ++ [x4_1]) (wrap64 (x4_1 + 1))) else (none)) = some r := by rw [if_pos rfl] at H; exact H
          clear H
          have H := H1
          clear H1
          by_cases c5 : x3_1.length < 17592186044416
          · rw [if_pos c5] at H
            have LMc5 := Aside0.mk c5
            clear c5
            obtain ⟨y460, hy460⟩ : ∃ y_ : List Int, y_ = (x3_1 ++ [x4_1]) := ⟨_, rfl⟩
            replace H : (impl_numbers.l0 k1 l0 y460 (wrap64 (x4_1 + 1))) = some r := by first | (rw [hy460]; with_reducible exact H) | (have H2_ := (Option.bind_some _ _).symm.trans H; rw [hy460]; with_reducible exact H2_) | (have H2_ := (Option.bind_some _ _).symm.trans H; with_reducible exact H2_) | with_reducible exact H | (rw [hy460]; exact H) | exact H
            have Ny460 := Aside0.mk hy460
            clear hy460
            have H' := Aside0.mk H
            clear H
            go_wp2_with (first | ((with_reducible refine gate_callee (f := 67) rfl ?_); refine goesL_ (some 11) rfl rfl Try.func67 (by kernel_rfl) rfl #[.slice A0 l0.length c0, .int .i64 x4_1] rfl (by (try simp only [List.map_toArray, List.map_cons, List.map_nil]); first | done | rfl | (simp only [List.length_drop, List.length_take]; rfl)) ?_; (with_reducible refine (slices_Contains_int_int.calls k1 _ _ l0 x4_1 true _ ?side1 ?side2 A3.out).mono ?_); (case side1 => repeat (first | exact (Kd.C_below HR0.out HB.out) | (with_reducible refine Kd.C_alloc ?_ _) | (with_reducible refine Kd.C_drewN ?_ _) | (with_reducible refine Kd.C_drew ?_))); (case side2 => exact HC0.out); rintro e w' ⟨rfl, ⟨nd, rfl⟩⟩; refine ⟨_, rfl, ?_⟩) | ((with_reducible refine gate_builtin (b := .append) (xs := #[.tmp 12, .tmp 14]) rfl ?_); at_builtin; refine Kd.R_append (Kd.int .i64) (w0 := w) w.heap.size rfl (.tmp 12) (.tmp 14) 25 3 (.int .i64 0) 8 rfl Try.underlying25 info3 rfl (by decide) (by omega) u3 x3_1 x4_1 [.int .i64 x4_1] (fun _ => True) (fun _ => False) rfl rfl ?aP (fun _ hk => hk.elim) ?aF ?aO ?aB ?aS ?aL ?_; (case aP => exact rfl); (case aB => exact (by repeat (first | (with_reducible first | exact HB.out | apply below_alloc | apply pw_below_drewN | apply below_drew1) | exact HB.out))); (case aF => exact (fun _ _ => trivial)); (case aO => exact (by (with_reducible repeat (first | apply Kd.R_alloc | apply Kd.R_drewN | apply Kd.R_drew)); exact HO_3.out)); (case aS => exact (below_size (by repeat (first | (with_reducible first | exact HB.out | apply below_alloc | apply pw_below_drewN | apply below_drew1) | exact HB.out)))); (case aL => have := LMc5.out; omega); intro v461 w6 ho hb hg hat; rw [← Ny460.out] at ho; have n0_ := Aside0.mk (hb); have n1_ := Aside0.mk (ho); clear HB; clear HO_3; have HB := n0_; have HO462 := n1_; clear n0_ n1_; clear ho hb hg hat))
            go_roundg k1
            case measure => have := HK1.out; omega
            case rel => exact ⟨(y460), (wrap64 (x4_1 + 1)), (by first | rfl | (simp; done) | (simp [*]; done)), H', ⟨by have := HK1.out; omega⟩, ⟨by (with_reducible repeat (first | apply Kd.R_alloc | apply Kd.R_drewN | apply Kd.R_drew)); exact HO462.out⟩, ⟨by repeat (first | (with_reducible first | exact HB.out | apply below_alloc | apply pw_below_drewN | apply below_drew1) | exact HB.out)⟩⟩
          · rw [if_neg c5] at H
            exact absurd H (by simp)
        · replace c4 := Bool.eq_false_iff.mpr c4
          subst c4
          have H1 : (impl_numbers.l0 k1 l0 x3_1 (wrap64 (x4_1 + 1))) = some r := by rw [if_neg (show ¬ (false = true) by decide)] at H; exact H
          clear H
          have H := H1
          clear H1
          have H' := Aside0.mk H
          clear H
          go_wp2_with (first | ((with_reducible refine gate_callee (f := 67) rfl ?_); refine goesL_ (some 11) rfl rfl Try.func67 (by kernel_rfl) rfl #[.slice A0 l0.length c0, .int .i64 x4_1] rfl (by (try simp only [List.map_toArray, List.map_cons, List.map_nil]); first | done | rfl | (simp only [List.length_drop, List.length_take]; rfl)) ?_; (with_reducible refine (slices_Contains_int_int.calls k1 _ _ l0 x4_1 false _ ?side1 ?side2 A3.out).mono ?_); (case side1 => repeat (first | exact (Kd.C_below HR0.out HB.out) | (with_reducible refine Kd.C_alloc ?_ _) | (with_reducible refine Kd.C_drewN ?_ _) | (with_reducible refine Kd.C_drew ?_))); (case side2 => exact HC0.out); rintro e w' ⟨rfl, ⟨nd, rfl⟩⟩; refine ⟨_, rfl, ?_⟩))
          go_roundg k1
          case measure => have := HK1.out; omega
          case rel => exact ⟨(x3_1), (wrap64 (x4_1 + 1)), (by first | rfl | (simp; done) | (simp [*]; done)), H', ⟨by have := HK1.out; omega⟩, ⟨by (with_reducible repeat (first | apply Kd.R_alloc | apply Kd.R_drewN | apply Kd.R_drew)); exact HO_3.out⟩, ⟨by repeat (first | (with_reducible first | exact HB.out | apply below_alloc | apply pw_below_drewN | apply below_drew1) | exact HB.out)⟩⟩
      · rw [if_neg c2] at H
        have c2b0 : decide (x4_1 ≤ 20) = false := decide_eq_false c2
        clear c2
        obtain rfl := Option.some.inj H
        go_wp2
        go_ret
        exact ⟨_, by first | rfl | (simp [errW_none, errW_some] <;> rfl) | (simp [*, errW_none, errW_some] <;> rfl), by (with_reducible repeat (first | apply Kd.R_alloc | apply Kd.R_drewN | apply Kd.R_drew)); exact HO_3.out, by repeat (first | (with_reducible first | exact HB.out | apply below_alloc | apply pw_below_drewN | apply below_drew1) | exact HB.out)⟩

noncomputable def impl_numbers.L0 (x0 : List Int) (x3 : List Int) (x4 : Int) : Option (List Int) := lim fun k => impl_numbers.l0 k x0 x3 x4
theorem impl_numbers.L0_lim (x0 : List Int) (x3 : List Int) (x4 : Int) : Lim (fun k => impl_numbers.l0 k x0 x3 x4) (impl_numbers.L0 x0 x3 x4) := Lim.of fun k => (impl_numbers.mono_l k) x0 x3 x4
noncomputable def impl_numbers.F (l0 : List Int) : Option (List Int) := lim fun k => impl_numbers.f k l0
theorem impl_numbers.F_lim (l0 : List Int) : Lim (fun k => impl_numbers.f k l0) (impl_numbers.F l0) := Lim.of fun k => impl_numbers.mono l0 k
theorem impl_numbers.L0_eq (x0 : List Int) (x3 : List Int) (x4 : Int) : impl_numbers.L0 x0 x3 x4 = (if x4 ≤ 20 then ((slices_Contains_int_int.F x0 x4).bind fun t459 => (if t459 = true then (if x3.length < 17592186044416 then (impl_numbers.L0 x0 (x3 ++ [x4]) (wrap64 (x4 + 1))) else (none)) else (impl_numbers.L0 x0 x3 (wrap64 (x4 + 1))))) else (some x3)) :=
  Lim.step (f := fun k => (if x4 ≤ 20 then ((slices_Contains_int_int.f k x0 x4).bind fun t459 => (if t459 = true then (if x3.length < 17592186044416 then (impl_numbers.l0 k x0 (x3 ++ [x4]) (wrap64 (x4 + 1))) else (none)) else (impl_numbers.l0 k x0 x3 (wrap64 (x4 + 1))))) else (some x3))) (impl_numbers.L0_lim x0 x3 x4) (fun k => by first | rfl | rw [impl_numbers.l0]) (by
    repeat' first
    | (with_reducible exact Lim.const _)
    | (with_reducible exact impl_numbers.L0_lim _ _ _)
    | (with_reducible exact slices_Contains_int_int.F_lim _ _)
    | (with_reducible refine Lim.ite ?_ ?_)
    | (with_reducible refine Lim.bind ?_ (fun _ => ?_)))
theorem impl_numbers.F_eq (l0 : List Int) : impl_numbers.F l0 = (impl_numbers.L0 l0 ([] : List Int) 1) :=
  Lim.unique (impl_numbers.F_lim l0) (by
    unfold impl_numbers.f
    repeat' first
    | (with_reducible exact Lim.const _)
    | (with_reducible exact impl_numbers.L0_lim _ _ _)
    | (with_reducible refine Lim.ite ?_ ?_)
    | (with_reducible refine Lim.bind ?_ (fun _ => ?_)))

end Go.Proofs.Ytmphbmpnenekgaa.Fn
namespace Go.Proofs.Ytmphbmpnenekgaa.Fn
open Go.RowKit Go.Proofs.YtmphbmpnenekgaaW.PrintWords Go.Proofs.YtmphbmpnenekgaaW.PrintLast Go.Proofs.YtmphbmpnenekgaaW.PrintMore
attribute [local go_sem] max2_int min2_int max_two min_two max_three min_three max_four min_four   -- for this text's walks alone
set_option linter.unusedVariables false
set_option linter.unusedSimpArgs false

/-! ### impl_isFrom: function 91 -/
def impl_isFrom.l0 : Nat → Int → List Int → List Int → Int → Int → Option (Int × Bool)
  | 0, _, _, _, _, _ => none
  | k + 1, x1, x6, x11, x12, x13 => if x13 < x12 then (if 0 ≤ x13 then (if x13 < (x11.length : Int) then (if (rd x11 x13) = (wrap64 (x1 + x13)) then (impl_isFrom.l0 k x1 x6 x11 x12 (wrap64 (x13 + 1))) else (some (0, false))) else (none)) else (none)) else (some ((x6.length : Int), decide ((x6.length : Int) > 0)))
def impl_isFrom.f (k : Nat) (l0 : List Int) (a1 : Int) : Option (Int × Bool) := (impl_numbers.f k l0).bind fun t463 => (impl_isFrom.l0 k a1 t463 t463 (t463.length : Int) 0)
theorem impl_isFrom.mono_l : ∀ k, (∀ y0 y1 y2 y3 y4, LeO (impl_isFrom.l0 k y0 y1 y2 y3 y4) (impl_isFrom.l0 (k + 1) y0 y1 y2 y3 y4))
  | 0 => fun _ _ _ _ _ r h => by simp [impl_isFrom.l0] at h
  | k + 1 => by
    have ih0 := impl_isFrom.mono_l k
    · intro y0 y1 y2 y3 y4
      unfold impl_isFrom.l0
      repeat' first
      | (with_reducible exact ih0 _ _ _ _ _)
      | (with_reducible exact impl_numbers.mono _ _)
      | (with_reducible exact LeO.refl _)
      | (with_reducible exact LeO.none _)
      | (with_reducible refine LeO.ite ?_ ?_)
      | (with_reducible refine LeO.bind ?_ (fun _ => ?_))
      | exact ih0 _ _ _ _ _
      | exact impl_numbers.mono _ _
      | exact LeO.none _
      | refine LeO.ite ?_ ?_
      | refine LeO.bind ?_ (fun _ => ?_)
theorem impl_isFrom.mono : ∀ a0 a1 k, LeO (impl_isFrom.f k a0 a1) (impl_isFrom.f (k + 1) a0 a1) := by
  intro a0 a1 k
  have ih0 := impl_isFrom.mono_l k
  unfold impl_isFrom.f
  repeat' first
      | (with_reducible exact ih0 _ _ _ _ _)
      | (with_reducible exact impl_numbers.mono _ _)
      | (with_reducible exact LeO.refl _)
      | (with_reducible exact LeO.none _)
      | (with_reducible refine LeO.ite ?_ ?_)
      | (with_reducible refine LeO.bind ?_ (fun _ => ?_))
      | exact ih0 _ _ _ _ _
      | exact impl_numbers.mono _ _
      | exact LeO.none _
      | refine LeO.ite ?_ ?_
      | refine LeO.bind ?_ (fun _ => ?_)
set_option maxHeartbeats 8000000 in
set_option maxRecDepth 100000 in
theorem impl_isFrom.calls (k : Nat) (A0 : Option Addr) (c0 : Nat) (l0 : List Int) (a1 : Int) (r1 : Int) (r2 : Bool) (w : World) (hr0 : Kd.C (Kd.int .i64) w A0 l0.length l0) (hc0 : l0.length ≤ c0) (h : impl_isFrom.f k l0 a1 = some (r1, r2)) :
    Calls Try.prog 91 #[.slice A0 l0.length c0, .int .i64 a1] w fun e w' => e = .returned (.tuple #[.int .i64 r1, .bool r2]) ∧ Below w.heap.size w w' := by
  have HR0 := Aside0.mk hr0
  have HC0 := Aside0.mk hc0
  clear hr0 hc0
  have HB := Aside0.mk (Below.refl w.heap.size w)
  have H : ((impl_numbers.f k l0).bind fun t463 => (impl_isFrom.l0 k a1 t463 t463 (t463.length : Int) 0)) = some (r1, r2) := h
  clear h
  replace H := Option.bind_eq_some_iff.mp H
  obtain ⟨t463, A30, H⟩ := H
  replace H : (impl_isFrom.l0 k a1 t463 t463 (t463.length : Int) 0) = some (r1, r2) := H
  have A3 := Aside0.mk A30
  clear A30
  have H' := Aside0.mk H
  clear H
  go_enter Try.func91, Try.ntmps91
  go_wp2_with (first | ((with_reducible refine gate_callee (f := 95) rfl ?_); refine goesL_ (some 10) rfl rfl Try.func95 (by kernel_rfl) rfl #[.slice A0 l0.length c0] rfl (by (try simp only [List.map_toArray, List.map_cons, List.map_nil]); first | done | rfl | (simp only [List.length_drop, List.length_take]; rfl)) ?_; (with_reducible refine (impl_numbers.calls k _ _ l0 t463 _ ?side1 ?side2 A3.out).mono ?_); (case side1 => repeat (first | exact HR0.out | (with_reducible refine Kd.C_alloc ?_ _) | (with_reducible refine Kd.C_drewN ?_ _) | (with_reducible refine Kd.C_drew ?_))); (case side2 => exact HC0.out); rintro e w4 ⟨v464, rfl, ho0, hb⟩; refine ⟨_, rfl, ?_⟩; have n0_ := Aside0.mk (Kd.R_lower ho0 (below_size (by repeat (first | (with_reducible first | exact HB.out | apply below_alloc | apply pw_below_drewN | apply below_drew1) | exact HB.out)))); have n1_ := Aside0.mk (below_step (by repeat (first | (with_reducible first | exact HB.out | apply below_alloc | apply pw_below_drewN | apply below_drew1) | exact HB.out)) hb); clear HB; have HO465 := n0_; have HB := n1_; clear n0_ n1_; (try clear hb); (try clear hb2); (try clear hk); (try clear hi); (try clear ho0); obtain ⟨Ao5, co5, eo5⟩ := Kd.R_slice HO465.out; subst eo5))
  go_loopg [13] k (fun kq v13 w' => ∃ (x13_1 : Int), v13 = .int .i64 x13_1 ∧ Aside0 (impl_isFrom.l0 kq a1 t463 t463 (t463.length : Int) x13_1 = some (r1, r2)) ∧ Aside0 (kq ≤ k) ∧ Aside0 (Kd.R (Kd.int .i64) 3 w' w.heap.size (fun _ => True) (.slice Ao5 t463.length co5) t463) ∧ Aside0 (Kd.R (Kd.int .i64) 3 w' w.heap.size (fun _ => True) (.slice Ao5 t463.length co5) t463) ∧ Aside0 (Below w.heap.size w w'))
  case atStart => exact ⟨(0), (by first | rfl | (simp; done) | (simp [*]; done)), H', ⟨Nat.le_refl _⟩, ⟨by (with_reducible repeat (first | apply Kd.R_alloc | apply Kd.R_drewN | apply Kd.R_drew)); exact HO465.out⟩, ⟨by (with_reducible repeat (first | apply Kd.R_alloc | apply Kd.R_drewN | apply Kd.R_drew)); exact HO465.out⟩, ⟨by repeat (first | (with_reducible first | exact HB.out | apply below_alloc | apply pw_below_drewN | apply below_drew1) | exact HB.out)⟩⟩
  case round =>
    clear H'
    try clear p2
    obtain ⟨x13_1, rfl, HA, HK1, HO_6, HO_11, HB⟩ := hrel
    cases gk with
    | zero => exact absurd HA.out (by simp [impl_isFrom.l0])
    | succ k1 =>
      have H := HA.out
      clear HA
      simp only [impl_isFrom.l0] at H
      by_cases c6 : x13_1 < (t463.length : Int)
      · rw [if_pos c6] at H
        have c6b0 : decide (x13_1 < (t463.length : Int)) = true := decide_eq_true c6
        clear c6
        by_cases c7 : 0 ≤ x13_1
        · rw [if_pos c7] at H
          have c7b0 : decide (0 ≤ x13_1) = true := decide_eq_true c7
          clear c7
          by_cases c8 : x13_1 < (t463.length : Int)
          · rw [if_pos c8] at H
            have c8b0 : decide (x13_1 < (t463.length : Int)) = true := decide_eq_true c8
            clear c8
            by_cases c9 : (rd t463 x13_1) = (wrap64 (a1 + x13_1))
            · rw [if_pos c9] at H
              have c9b0 : ((rd t463 x13_1) == (wrap64 (a1 + x13_1))) = true := beq_iff_eq.mpr c9
              have c9b1 : ((rd t463 x13_1) != (wrap64 (a1 + x13_1))) = false := bne_eq_false_iff_eq.mpr c9
              clear c9
              have H' := Aside0.mk H
              clear H
              have p466 : 0 ≤ (x13_1 : Int) := of_decide_eq_true (by first | (with_reducible assumption) | assumption)
              have q466 : x13_1 < (t463.length : Int) := of_decide_eq_true (by first | (with_reducible assumption) | assumption)
              obtain ⟨ad466, e466, hx466_0⟩ := Kd.at_int (Kd.R_reads' HO_11.out).2.2 x13_1 p466 q466
              cases e466
              replace p466 := eq_true p466
              replace q466 := eq_true q466
              go_wp2
              go_roundg k1
              case measure => have := HK1.out; omega
              case rel => exact ⟨(wrap64 (x13_1 + 1)), (by first | rfl | (simp; done) | (simp [*]; done)), H', ⟨by have := HK1.out; omega⟩, ⟨by (with_reducible repeat (first | apply Kd.R_alloc | apply Kd.R_drewN | apply Kd.R_drew)); exact HO_6.out⟩, ⟨by (with_reducible repeat (first | apply Kd.R_alloc | apply Kd.R_drewN | apply Kd.R_drew)); exact HO_11.out⟩, ⟨by repeat (first | (with_reducible first | exact HB.out | apply below_alloc | apply pw_below_drewN | apply below_drew1) | exact HB.out)⟩⟩
            · rw [if_neg c9] at H
              have c9b0 : ((rd t463 x13_1) == (wrap64 (a1 + x13_1))) = false := beq_eq_false_iff_ne.mpr c9
              have c9b1 : ((rd t463 x13_1) != (wrap64 (a1 + x13_1))) = true := bne_iff_ne.mpr c9
              simp only [Option.some.injEq, Prod.mk.injEq] at H
              obtain ⟨rfl, rfl⟩ := H
              have p466 : 0 ≤ (x13_1 : Int) := of_decide_eq_true (by first | (with_reducible assumption) | assumption)
              have q466 : x13_1 < (t463.length : Int) := of_decide_eq_true (by first | (with_reducible assumption) | assumption)
              obtain ⟨ad466, e466, hx466_0⟩ := Kd.at_int (Kd.R_reads' HO_11.out).2.2 x13_1 p466 q466
              cases e466
              replace p466 := eq_true p466
              replace q466 := eq_true q466
              go_wp2
              go_ret2
              exact ⟨by first | rfl | (simp [errW_none, errW_some] <;> rfl) | (simp [*, errW_none, errW_some] <;> rfl), by repeat (first | (with_reducible first | exact HB.out | apply below_alloc | apply pw_below_drewN | apply below_drew1) | exact HB.out)⟩
          · rw [if_neg c8] at H
            exact absurd H (by simp)
        · rw [if_neg c7] at H
          exact absurd H (by simp)
      · rw [if_neg c6] at H
        have c6b0 : decide (x13_1 < (t463.length : Int)) = false := decide_eq_false c6
        clear c6
        simp only [Option.some.injEq, Prod.mk.injEq] at H
        obtain ⟨rfl, rfl⟩ := H
        go_wp2
        go_ret2
        exact ⟨by first | rfl | (simp [errW_none, errW_some] <;> rfl) | (simp [*, errW_none, errW_some] <;> rfl), by repeat (first | (with_reducible first | exact HB.out | apply below_alloc | apply pw_below_drewN | apply below_drew1) | exact HB.out)⟩

noncomputable def impl_isFrom.L0 (x1 : Int) (x6 : List Int) (x11 : List Int) (x12 : Int) (x13 : Int) : Option (Int × Bool) := lim fun k => impl_isFrom.l0 k x1 x6 x11 x12 x13
theorem impl_isFrom.L0_lim (x1 : Int) (x6 : List Int) (x11 : List Int) (x12 : Int) (x13 : Int) : Lim (fun k => impl_isFrom.l0 k x1 x6 x11 x12 x13) (impl_isFrom.L0 x1 x6 x11 x12 x13) := Lim.of fun k => (impl_isFrom.mono_l k) x1 x6 x11 x12 x13
noncomputable def impl_isFrom.F (l0 : List Int) (a1 : Int) : Option (Int × Bool) := lim fun k => impl_isFrom.f k l0 a1
theorem impl_isFrom.F_lim (l0 : List Int) (a1 : Int) : Lim (fun k => impl_isFrom.f k l0 a1) (impl_isFrom.F l0 a1) := Lim.of fun k => impl_isFrom.mono l0 a1 k
theorem impl_isFrom.L0_eq (x1 : Int) (x6 : List Int) (x11 : List Int) (x12 : Int) (x13 : Int) : impl_isFrom.L0 x1 x6 x11 x12 x13 = (if x13 < x12 then (if 0 ≤ x13 then (if x13 < (x11.length : Int) then (if (rd x11 x13) = (wrap64 (x1 + x13)) then (impl_isFrom.L0 x1 x6 x11 x12 (wrap64 (x13 + 1))) else (some (0, false))) else (none)) else (none)) else (some ((x6.length : Int), decide ((x6.length : Int) > 0)))) :=
  Lim.step (f := fun k => (if x13 < x12 then (if 0 ≤ x13 then (if x13 < (x11.length : Int) then (if (rd x11 x13) = (wrap64 (x1 + x13)) then (impl_isFrom.l0 k x1 x6 x11 x12 (wrap64 (x13 + 1))) else (some (0, false))) else (none)) else (none)) else (some ((x6.length : Int), decide ((x6.length : Int) > 0))))) (impl_isFrom.L0_lim x1 x6 x11 x12 x13) (fun k => by first | rfl | rw [impl_isFrom.l0]) (by
    repeat' first
    | (with_reducible exact Lim.const _)
    | (with_reducible exact impl_isFrom.L0_lim _ _ _ _ _)
    | (with_reducible refine Lim.ite ?_ ?_)
    | (with_reducible refine Lim.bind ?_ (fun _ => ?_)))
theorem impl_isFrom.F_eq (l0 : List Int) (a1 : Int) : impl_isFrom.F l0 a1 = ((impl_numbers.F l0).bind fun t463 => (impl_isFrom.L0 a1 t463 t463 (t463.length : Int) 0)) :=
  Lim.unique (impl_isFrom.F_lim l0 a1) (by
    unfold impl_isFrom.f
    repeat' first
    | (with_reducible exact Lim.const _)
    | (with_reducible exact impl_isFrom.L0_lim _ _ _ _ _)
    | (with_reducible exact impl_numbers.F_lim _)
    | (with_reducible refine Lim.ite ?_ ?_)
    | (with_reducible refine Lim.bind ?_ (fun _ => ?_)))

end Go.Proofs.Ytmphbmpnenekgaa.Fn
namespace Go.Proofs.Ytmphbmpnenekgaa.Fn
open Go.RowKit Go.Proofs.YtmphbmpnenekgaaW.PrintWords Go.Proofs.YtmphbmpnenekgaaW.PrintLast Go.Proofs.YtmphbmpnenekgaaW.PrintMore
attribute [local go_sem] max2_int min2_int max_two min_two max_three min_three max_four min_four   -- for this text's walks alone
set_option linter.unusedVariables false
set_option linter.unusedSimpArgs false

/-! ### impl_extended: function 69 -/
def impl_extended.j0 : Nat → List Int → Bool → Option (Int × Int)
  | 0, _, _ => none
  | k + 1, x0, x14 => if x14 = true then (some (0, 0)) else ((impl_isFrom.f k x0 1).bind fun bt471 => ((impl_holes.f k x0).bind fun t473 => (if 0 < (t473.length : Int) then (some (bt471.1, rd t473 0)) else (none))))
def impl_extended.f (k : Nat) (l0 : List Int) : Option (Int × Int) := (impl_fits.f k l0 0).bind fun t467 => (if t467 = true then ((impl_holes.f k l0).bind fun t468 => (impl_extended.j0 k l0 ((t468.length : Int) != 1))) else (impl_extended.j0 k l0 true))
theorem impl_extended.mono_l : ∀ k, (∀ y0 y1, LeO (impl_extended.j0 k y0 y1) (impl_extended.j0 (k + 1) y0 y1))
  | 0 => fun _ _ r h => by simp [impl_extended.j0] at h
  | k + 1 => by
    have ih0 := impl_extended.mono_l k
    · intro y0 y1
      unfold impl_extended.j0
      repeat' first
      | (with_reducible exact ih0 _ _)
      | (with_reducible exact impl_fits.mono _ _ _)
      | (with_reducible exact impl_holes.mono _ _)
      | (with_reducible exact impl_isFrom.mono _ _ _)
      | (with_reducible exact LeO.refl _)
      | (with_reducible exact LeO.none _)
      | (with_reducible refine LeO.ite ?_ ?_)
      | (with_reducible refine LeO.bind ?_ (fun _ => ?_))
      | exact ih0 _ _
      | exact impl_fits.mono _ _ _
      | exact impl_holes.mono _ _
      | exact impl_isFrom.mono _ _ _
      | exact LeO.none _
      | refine LeO.ite ?_ ?_
      | refine LeO.bind ?_ (fun _ => ?_)
theorem impl_extended.mono : ∀ a0 k, LeO (impl_extended.f k a0) (impl_extended.f (k + 1) a0) := by
  intro a0 k
  have ih0 := impl_extended.mono_l k
  unfold impl_extended.f
  repeat' first
      | (with_reducible exact ih0 _ _)
      | (with_reducible exact impl_fits.mono _ _ _)
      | (with_reducible exact impl_holes.mono _ _)
      | (with_reducible exact impl_isFrom.mono _ _ _)
      | (with_reducible exact LeO.refl _)
      | (with_reducible exact LeO.none _)
      | (with_reducible refine LeO.ite ?_ ?_)
      | (with_reducible refine LeO.bind ?_ (fun _ => ?_))
      | exact ih0 _ _
      | exact impl_fits.mono _ _ _
      | exact impl_holes.mono _ _
      | exact impl_isFrom.mono _ _ _
      | exact LeO.none _
      | refine LeO.ite ?_ ?_
      | refine LeO.bind ?_ (fun _ => ?_)
set_option maxHeartbeats 8000000 in
set_option maxRecDepth 100000 in
theorem impl_extended.calls (k : Nat) (A0 : Option Addr) (c0 : Nat) (l0 : List Int) (r1 : Int) (r2 : Int) (w : World) (hr0 : Kd.C (Kd.int .i64) w A0 l0.length l0) (hc0 : l0.length ≤ c0) (h : impl_extended.f k l0 = some (r1, r2)) :
    Calls Try.prog 69 #[.slice A0 l0.length c0] w fun e w' => e = .returned (.tuple #[.int .i64 r1, .int .i64 r2]) ∧ Below w.heap.size w w' := by
  have HR0 := Aside0.mk hr0
  have HC0 := Aside0.mk hc0
  clear hr0 hc0
  have HB := Aside0.mk (Below.refl w.heap.size w)
  have H : ((impl_fits.f k l0 0).bind fun t467 => (if t467 = true then ((impl_holes.f k l0).bind fun t468 => (impl_extended.j0 k l0 ((t468.length : Int) != 1))) else (impl_extended.j0 k l0 true))) = some (r1, r2) := h
  clear h
  have HC2 := Aside0.mk H
  clear H
  go_enter Try.func69, Try.ntmps69
  go_upto_region 1 with (fail)
  go_cut [14] (fun v14 wc => ∃ (kq : Nat) (x14_1 : Bool), v14 = .bool x14_1 ∧ Aside0 (impl_extended.j0 kq l0 x14_1 = some (r1, r2)) ∧ Aside0 (kq ≤ k) ∧ Aside0 (Below w.heap.size w wc))
  case first =>
    have H := HC2.out
    clear HC2
    replace H := Option.bind_eq_some_iff.mp H
    obtain ⟨t467, A30, H⟩ := H
    replace H : (if t467 = true then ((impl_holes.f k l0).bind fun t468 => (impl_extended.j0 k l0 ((t468.length : Int) != 1))) else (impl_extended.j0 k l0 true)) = some (r1, r2) := H
    have A3 := Aside0.mk A30
    clear A30
    by_cases c4 : t467 = true
    · subst c4
      have H1 : ((impl_holes.f k l0).bind fun t468 => (impl_extended.j0 k l0 ((t468.length : Int) != 1))) = some (r1, r2) := by rw [if_pos rfl] at H; exact H
      clear H
      have H := H1
      clear H1
      replace H := Option.bind_eq_some_iff.mp H
      obtain ⟨t468, A50, H⟩ := H
      replace H : (impl_extended.j0 k l0 ((t468.length : Int) != 1)) = some (r1, r2) := H
      have A5 := Aside0.mk A50
      clear A50
      have H' := Aside0.mk H
      clear H
      go_wp2_with (first | ((with_reducible refine gate_callee (f := 62) rfl ?_); refine goesL_ (some 7) rfl rfl Try.func62 (by kernel_rfl) rfl #[.slice A0 l0.length c0, .int .i64 0] rfl (by (try simp only [List.map_toArray, List.map_cons, List.map_nil]); first | done | rfl | (simp only [List.length_drop, List.length_take]; rfl)) ?_; (with_reducible refine (impl_fits.calls k _ _ l0 0 true _ ?side1 ?side2 A3.out).mono ?_); (case side1 => repeat (first | exact (Kd.C_below HR0.out HB.out) | (with_reducible refine Kd.C_alloc ?_ _) | (with_reducible refine Kd.C_drewN ?_ _) | (with_reducible refine Kd.C_drew ?_))); (case side2 => exact HC0.out); rintro e w6 ⟨rfl, hb⟩; refine ⟨_, rfl, ?_⟩; have n0_ := Aside0.mk (below_step (by repeat (first | (with_reducible first | exact HB.out | apply below_alloc | apply pw_below_drewN | apply below_drew1) | exact HB.out)) hb); clear HB; have HB := n0_; clear n0_; (try clear hb); (try clear hb2); (try clear hk); (try clear hi)) | (go_at_call 90; (with_reducible refine (impl_holes.calls k _ _ l0 t468 _ ?side1 ?side2 A5.out).mono ?_); (case side1 => repeat (first | exact (Kd.C_below HR0.out HB.out) | (with_reducible refine Kd.C_alloc ?_ _) | (with_reducible refine Kd.C_drewN ?_ _) | (with_reducible refine Kd.C_drew ?_))); (case side2 => exact HC0.out); rintro e w7 ⟨v469, rfl, ho0, hb⟩; have n0_ := Aside0.mk (Kd.R_lower ho0 (below_size (by repeat (first | (with_reducible first | exact HB.out | apply below_alloc | apply pw_below_drewN | apply below_drew1) | exact HB.out)))); have n1_ := Aside0.mk (below_step (by repeat (first | (with_reducible first | exact HB.out | apply below_alloc | apply pw_below_drewN | apply below_drew1) | exact HB.out)) hb); clear HB; have HO470 := n0_; have HB := n1_; clear n0_ n1_; (try clear hb); (try clear hb2); (try clear hk); (try clear hi); (try clear ho0); obtain ⟨Ao8, co8, eo8⟩ := Kd.R_slice HO470.out; subst eo8))
      go_meet
      case rel => exact ⟨_, (((t468.length : Int) != 1)), (by first | rfl | (simp; done) | (simp [*]; done)), H', ⟨by first | omega | exact Nat.le_refl _⟩, ⟨by repeat (first | (with_reducible first | exact HB.out | apply below_alloc | apply pw_below_drewN | apply below_drew1) | exact HB.out)⟩⟩
    · replace c4 := Bool.eq_false_iff.mpr c4
      subst c4
      have H1 : (impl_extended.j0 k l0 true) = some (r1, r2) := by rw [if_neg (show ¬ (false = true) by decide)] at H; exact H
      clear H
      have H := H1
      clear H1
      have H' := Aside0.mk H
      clear H
      go_wp2_with (first | ((with_reducible refine gate_callee (f := 62) rfl ?_); refine goesL_ (some 7) rfl rfl Try.func62 (by kernel_rfl) rfl #[.slice A0 l0.length c0, .int .i64 0] rfl (by (try simp only [List.map_toArray, List.map_cons, List.map_nil]); first | done | rfl | (simp only [List.length_drop, List.length_take]; rfl)) ?_; (with_reducible refine (impl_fits.calls k _ _ l0 0 false _ ?side1 ?side2 A3.out).mono ?_); (case side1 => repeat (first | exact (Kd.C_below HR0.out HB.out) | (with_reducible refine Kd.C_alloc ?_ _) | (with_reducible refine Kd.C_drewN ?_ _) | (with_reducible refine Kd.C_drew ?_))); (case side2 => exact HC0.out); rintro e w9 ⟨rfl, hb⟩; refine ⟨_, rfl, ?_⟩; have n0_ := Aside0.mk (below_step (by repeat (first | (with_reducible first | exact HB.out | apply below_alloc | apply pw_below_drewN | apply below_drew1) | exact HB.out)) hb); clear HB; have HB := n0_; clear n0_; (try clear hb); (try clear hb2); (try clear hk); (try clear hi)))
      go_meet
      case rel => exact ⟨_, (true), (by first | rfl | (simp; done) | (simp [*]; done)), H', ⟨by first | omega | exact Nat.le_refl _⟩, ⟨by repeat (first | (with_reducible first | exact HB.out | apply below_alloc | apply pw_below_drewN | apply below_drew1) | exact HB.out)⟩⟩
  case rest =>
    clear HC2
    try clear p2
    try clear c4
    try clear c6
    obtain ⟨kq, x14_1, rfl, HA, HJ1, HB⟩ := hcut
    cases kq with
    | zero => exact absurd HA.out (by simp [impl_extended.j0])
    | succ kj1 =>
      have H := HA.out
      clear HA
      simp only [impl_extended.j0] at H
      by_cases c10 : x14_1 = true
      · subst c10
        have H1 : (some (0, 0)) = some (r1, r2) := by rw [if_pos rfl] at H; exact H
        clear H
        have H := H1
        clear H1
        simp only [Option.some.injEq, Prod.mk.injEq] at H
        obtain ⟨rfl, rfl⟩ := H
        go_wp2
        go_ret2
        exact ⟨by first | rfl | (simp [errW_none, errW_some] <;> rfl) | (simp [*, errW_none, errW_some] <;> rfl), by repeat (first | (with_reducible first | exact HB.out | apply below_alloc | apply pw_below_drewN | apply below_drew1) | exact HB.out)⟩
      · replace c10 := Bool.eq_false_iff.mpr c10
        subst c10
        have H1 : ((impl_isFrom.f kj1 l0 1).bind fun bt471 => ((impl_holes.f kj1 l0).bind fun t473 => (if 0 < (t473.length : Int) then (some (bt471.1, rd t473 0)) else (none)))) = some (r1, r2) := by rw [if_neg (show ¬ (false = true) by decide)] at H; exact H
        clear H
        have H := H1
        clear H1
        replace H := Option.bind_eq_some_iff.mp H
        obtain ⟨⟨t471, t472⟩, A110, H⟩ := H
        replace H : ((impl_holes.f kj1 l0).bind fun t473 => (if 0 < (t473.length : Int) then (some (t471, rd t473 0)) else (none))) = some (r1, r2) := H
        have A11 := Aside0.mk A110
        clear A110
        replace H := Option.bind_eq_some_iff.mp H
        obtain ⟨t473, A120, H⟩ := H
        replace H : (if 0 < (t473.length : Int) then (some (t471, rd t473 0)) else (none)) = some (r1, r2) := H
        have A12 := Aside0.mk A120
        clear A120
        by_cases c13 : 0 < (t473.length : Int)
        · rw [if_pos c13] at H
          have c13b0 : decide (0 < (t473.length : Int)) = true := decide_eq_true c13
          have c13b1 : decide (0 < t473.length) = true := decide_eq_true (by omega)
          clear c13
          simp only [Option.some.injEq, Prod.mk.injEq] at H
          obtain ⟨rfl, rfl⟩ := H
          try go_wp2_with (first | ((with_reducible refine gate_callee (f := 91) rfl ?_); refine goesL_ (some 17) rfl rfl Try.func91 (by kernel_rfl) rfl #[.slice A0 l0.length c0, .int .i64 1] rfl (by (try simp only [List.map_toArray, List.map_cons, List.map_nil]); first | done | rfl | (simp only [List.length_drop, List.length_take]; rfl)) ?_; (with_reducible refine (impl_isFrom.calls kj1 _ _ l0 1 t471 t472 _ ?side1 ?side2 A11.out).mono ?_); (case side1 => repeat (first | exact (Kd.C_below HR0.out HB.out) | (with_reducible refine Kd.C_alloc ?_ _) | (with_reducible refine Kd.C_drewN ?_ _) | (with_reducible refine Kd.C_drew ?_))); (case side2 => exact HC0.out); rintro e w14 ⟨rfl, hb⟩; refine ⟨_, rfl, ?_⟩; have n0_ := Aside0.mk (below_step (by repeat (first | (with_reducible first | exact HB.out | apply below_alloc | apply pw_below_drewN | apply below_drew1) | exact HB.out)) hb); clear HB; have HB := n0_; clear n0_; (try clear hb); (try clear hb2); (try clear hk); (try clear hi)))
          have n0_ := Aside0.mk (below_drew1 HB.out)
          clear HB
          have HB := n0_
          clear n0_
          refine start_ (n := 7) (S := fun _ => True) (ds := []) #[false, false, false, false, false, false, false] (by kernel_rfl) rfl rfl (trivial) (fun hHeld => ?_)
          generalize w14.drew = w15 at HB hHeld ⊢
          refine pure_ (i := 0) (N := some 20) (v := ?_) (a' := ?_) #[true, false, false, false, false, false, false] rfl rfl (by kernel_rfl) (fun _ _ _ h => h) (Or.inl ⟨by rfl, ?_⟩) ?_ ?_
          rotate_left
          · intro w'
            go_simp
            with_reducible rfl
          rotate_left
          · simp only [Act.put, List.setIfInBounds_toArray, List.set_cons_zero, List.set_cons_succ, i64_w, i32_w]
            rfl
          refine pure_ (i := 1) (N := some 21) (v := ?_) (a' := ?_) #[true, true, false, false, false, false, false] rfl rfl (by kernel_rfl) (fun _ _ _ h => h) (Or.inl ⟨by rfl, ?_⟩) ?_ ?_
          rotate_left
          · intro w'
            go_simp
            with_reducible rfl
          rotate_left
          · simp only [Act.put, List.setIfInBounds_toArray, List.set_cons_zero, List.set_cons_succ, i64_w, i32_w]
            rfl
          refine one_ (i := 2) (N := some 22) #[true, true, true, false, false, false, false] rfl rfl (by kernel_rfl) (by decide) (fun K hK => ?_)
          refine goes_ Try.func90 (by kernel_rfl) rfl #[.slice A0 l0.length c0] (by rfl) rfl rfl (by (try simp only [List.map_toArray, List.map_cons, List.map_nil]); first | done | rfl | (simp only [List.length_drop, List.length_take]; rfl)) ?_
          with_reducible refine (impl_holes.calls kj1 _ _ l0 t473 _ ?side1 ?side2 A12.out).mono ?_
          (case side1 => repeat (first | exact (Kd.C_below HR0.out HB.out) | (with_reducible refine Kd.C_alloc ?_ _) | (with_reducible refine Kd.C_drewN ?_ _) | (with_reducible refine Kd.C_drew ?_)))
          (case side2 => exact HC0.out)
          rintro e w16 ⟨v474, rfl, ho0, hb⟩
          have HS0_ : True := trivial
          refine ⟨_, rfl, ?_⟩
          have n0_ := Aside0.mk (Kd.R_lower ho0 (below_size (by repeat (first | (with_reducible first | exact HB.out | apply below_alloc | apply pw_below_drewN | apply below_drew1) | exact HB.out))))
          have n1_ := Aside0.mk (below_step (by repeat (first | (with_reducible first | exact HB.out | apply below_alloc | apply pw_below_drewN | apply below_drew1) | exact HB.out)) hb)
          clear HB
          have HO475 := n0_
          have HB := n1_
          clear n0_ n1_
          (try clear hb)
          (try clear hb2)
          (try clear hk)
          (try clear hi)
          (try clear ho0)
          obtain ⟨Ao17, co17, eo17⟩ := Kd.R_slice HO475.out
          (first | subst eo17 | (injection eo17 with f1_ f2_ f3_; have f4_ := f1_.symm; have f5_ := f3_.symm; clear f1_ f2_ f3_; subst f4_; subst f5_))
          have p476 : 0 ≤ (0 : Int) := (by omega)
          have q476 : 0 < (t473.length : Int) := of_decide_eq_true (by first | (with_reducible assumption) | assumption)
          obtain ⟨ad476, e476, hx476_0⟩ := Kd.at_int (Kd.R_reads' HO475.out).2.2 0 p476 q476
          cases e476
          have qi476 : (0 < t473.length) = True := eq_true (by omega)
          (try rw [show ((0 : Int)).toNat = 0 from rfl] at hx476_0)
          (try rw [Addr.add_zero'] at hx476_0)
          replace p476 := eq_true p476
          replace q476 := eq_true q476
          refine hK.out _ _ (HS0_) (fun hHeld => ?_)
          clear hK K
          refine weak_ (S' := fun w' => w'.cell? ad476 = some (.int .i64 (rd t473 0))) ?_
          clear hHeld
          have hHeld := hx476_0
          refine norm_ (a' := ?_) ?_ ?_
          rotate_left
          · show Act.put _ (some 22) _ = _
            simp only [Act.put, List.setIfInBounds_toArray, List.set_cons_zero, List.set_cons_succ, i64_w, i32_w]
            rfl
          refine pure_ (i := 3) (N := some 23) (v := ?_) (a' := ?_) #[true, true, true, true, false, false, false] rfl rfl (by kernel_rfl) (fun _ _ _ h => h) (Or.inl ⟨by rfl, ?_⟩) ?_ ?_
          rotate_left
          · intro w'
            go_simp
            with_reducible rfl
          rotate_left
          · simp only [Act.put, List.setIfInBounds_toArray, List.set_cons_zero, List.set_cons_succ, i64_w, i32_w]
            rfl
          refine pure_ (i := 5) (N := some 2) (v := ?_) (a' := ?_) #[true, true, true, true, false, true, false] rfl rfl (by kernel_rfl) (fun _ _ _ h => h) (Or.inl ⟨by rfl, ?_⟩) ?_ ?_
          rotate_left
          · intro w'
            go_simp
            with_reducible rfl
          rotate_left
          · simp only [Act.put, List.setIfInBounds_toArray, List.set_cons_zero, List.set_cons_succ, i64_w, i32_w]
            rfl
          refine take_ (i := 4) (N := some 24) (v := ?_) (a' := ?_) #[true, true, true, true, true, true, false] rfl rfl (by kernel_rfl) (fun _ _ _ h => h) (Or.inl ⟨by rfl, ?_⟩) hHeld ?_ ?_
          rotate_left
          · intro w' s0
            go_simp
            with_reducible rfl
          rotate_left
          · simp only [Act.put, List.setIfInBounds_toArray, List.set_cons_zero, List.set_cons_succ, i64_w, i32_w]
            rfl
          refine pure_ (i := 6) (N := some 3) (v := ?_) (a' := ?_) #[true, true, true, true, true, true, true] rfl rfl (by kernel_rfl) (fun _ _ _ h => h) (Or.inl ⟨by rfl, ?_⟩) ?_ ?_
          rotate_left
          · intro w'
            go_simp
            with_reducible rfl
          rotate_left
          · simp only [Act.put, List.setIfInBounds_toArray, List.set_cons_zero, List.set_cons_succ, i64_w, i32_w]
            rfl
          refine done_ (by kernel_rfl) ?_
          try go_wp2
          go_ret2
          exact ⟨by first | rfl | (simp [errW_none, errW_some] <;> rfl) | (simp [*, errW_none, errW_some] <;> rfl), by repeat (first | (with_reducible first | exact HB.out | apply below_alloc | apply pw_below_drewN | apply below_drew1) | exact HB.out)⟩
        · rw [if_neg c13] at H
          exact absurd H (by simp)

noncomputable def impl_extended.J0 (x0 : List Int) (x14 : Bool) : Option (Int × Int) := lim fun k => impl_extended.j0 k x0 x14
theorem impl_extended.J0_lim (x0 : List Int) (x14 : Bool) : Lim (fun k => impl_extended.j0 k x0 x14) (impl_extended.J0 x0 x14) := Lim.of fun k => (impl_extended.mono_l k) x0 x14
noncomputable def impl_extended.F (l0 : List Int) : Option (Int × Int) := lim fun k => impl_extended.f k l0
theorem impl_extended.F_lim (l0 : List Int) : Lim (fun k => impl_extended.f k l0) (impl_extended.F l0) := Lim.of fun k => impl_extended.mono l0 k
theorem impl_extended.J0_eq (x0 : List Int) (x14 : Bool) : impl_extended.J0 x0 x14 = (if x14 = true then (some (0, 0)) else ((impl_isFrom.F x0 1).bind fun bt471 => ((impl_holes.F x0).bind fun t473 => (if 0 < (t473.length : Int) then (some (bt471.1, rd t473 0)) else (none))))) :=
  Lim.step (f := fun k => (if x14 = true then (some (0, 0)) else ((impl_isFrom.f k x0 1).bind fun bt471 => ((impl_holes.f k x0).bind fun t473 => (if 0 < (t473.length : Int) then (some (bt471.1, rd t473 0)) else (none)))))) (impl_extended.J0_lim x0 x14) (fun k => by first | rfl | rw [impl_extended.j0]) (by
    repeat' first
    | (with_reducible exact Lim.const _)
    | (with_reducible exact impl_holes.F_lim _)
    | (with_reducible exact impl_isFrom.F_lim _ _)
    | (with_reducible refine Lim.ite ?_ ?_)
    | (with_reducible refine Lim.bind ?_ (fun _ => ?_)))
theorem impl_extended.F_eq (l0 : List Int) : impl_extended.F l0 = ((impl_fits.F l0 0).bind fun t467 => (if t467 = true then ((impl_holes.F l0).bind fun t468 => (impl_extended.J0 l0 ((t468.length : Int) != 1))) else (impl_extended.J0 l0 true))) :=
  Lim.unique (impl_extended.F_lim l0) (by
    unfold impl_extended.f
    repeat' first
    | (with_reducible exact Lim.const _)
    | (with_reducible exact impl_extended.J0_lim _ _)
    | (with_reducible exact impl_fits.F_lim _ _)
    | (with_reducible exact impl_holes.F_lim _)
    | (with_reducible refine Lim.ite ?_ ?_)
    | (with_reducible refine Lim.bind ?_ (fun _ => ?_)))

end Go.Proofs.Ytmphbmpnenekgaa.Fn
namespace Go.Proofs.Ytmphbmpnenekgaa.Fn
open Go.RowKit Go.Proofs.YtmphbmpnenekgaaW.PrintWords Go.Proofs.YtmphbmpnenekgaaW.PrintLast Go.Proofs.YtmphbmpnenekgaaW.PrintMore
attribute [local go_sem] max2_int min2_int max_two min_two max_three min_three max_four min_four   -- for this text's walks alone
set_option linter.unusedVariables false
set_option linter.unusedSimpArgs false

/-! ### slices_Delete_int_int: function 75 (given) -/
open Go.Lib Go.Sort
/-- What Delete leaves of a list, where at least one element goes. -/
def slices_Delete_int_int.f (l0 : List Int) (a1 a2 : Int) : Option (List Int) := if 0 ≤ a1 ∧ a1 < a2 ∧ a2 ≤ (l0.length : Int) then some (l0.take a1.toNat ++ l0.drop a2.toNat) else none
theorem slices_Delete_int_int.below {w : World} {B g q : Nat} (d : Array Int) (h : B ≤ g) : Below B w (putRow (Value.int .i64) (Sort.ahead w q) g 0 d) := by
  refine ⟨rfl, rfl, rfl, by simp [putRow, mapBlock, Sort.ahead], fun k hk => ?_⟩
  have : g ≠ k := by omega
  simp [putRow, mapBlock, Sort.ahead, Array.getElem?_modify, this]
theorem slices_Delete_int_int.heap {w : World} {g q : Nat} {cur : Array Value} {e : TypeId} {fr : Nat × Nat} (d : Array Int) (hb : w.heap[g]? = some (.cells cur e fr)) : (putRow (Value.int .i64) (Sort.ahead w q) g 0 d).heap[g]? = some (.cells (putCells (Value.int .i64) 0 d cur) e fr) := by
  simp [putRow, mapBlock, Sort.ahead, Array.getElem?_modify, hb, onCells]
theorem slices_Delete_int_int.kept {w : World} {g q : Nat} (d : Array Int) (P : Nat → Prop) (h : P g) : Kept w (putRow (Value.int .i64) (Sort.ahead w q) g 0 d) P := by
  refine ⟨by simp [putRow, mapBlock, Sort.ahead], fun k hk hn => ?_⟩
  have : g ≠ k := fun e => hn (e ▸ h)
  simp [putRow, mapBlock, Sort.ahead, Array.getElem?_modify, this]
theorem slices_Delete_int_int.calls (P0_ : Nat → Prop) (u9000_ : Value) (l0 : List Int) (a1 a2 : Int) (r : List Int) (w0 w : World) (hB : Below w0.heap.size w0 w) (ho0 : Kd.R (Kd.int .i64) 3 w w0.heap.size P0_ u9000_ l0) (h : slices_Delete_int_int.f l0 a1 a2 = some r) :
    Calls Try.prog 75 #[u9000_, .int .i64 a1, .int .i64 a2] w fun e w' => ∃ v0_ : Value, e = .returned (v0_) ∧ Kd.R (Kd.int .i64) 3 w' w0.heap.size (fun k_ => (P0_ k_ ∨ w.heap.size ≤ k_)) v0_ r ∧ Below w0.heap.size w0 w' ∧ Kept w w' (fun k_ => P0_ k_) := by
  unfold slices_Delete_int_int.f at h
  split at h
  case isFalse => cases h
  rename_i hc
  obtain rfl := Option.some.inj h
  obtain ⟨i, rfl⟩ : ∃ i : Nat, a1 = i := ⟨a1.toNat, by omega⟩
  obtain ⟨j, rfl⟩ : ∃ j : Nat, a2 = j := ⟨a2.toNat, by omega⟩
  obtain ⟨A, c, rfl⟩ := Kd.R_slice ho0
  obtain ⟨hok, inner, ho, hr⟩ := ho0
  have hin : inner = l0.map (Value.int .i64) := Kd.reps_encs hr
  subst hin
  rcases ho.2 with ⟨h0, h1⟩ | ⟨g, cap, cur, hv, hg, hb, hn, hcap, hsz, htk⟩
  · simp at h0
    have := h0.2
    omega
  · cases hv
    have ht : cur.toList.take l0.length = l0.map (Value.int .i64) := by simpa [Kd.int, Kd.scalar] using htk
    have hsz' : cur.size = c := by simpa [Kd.int, Kd.scalar] using hsz
    refine (Try.slices_Delete_int g 0 c i j l0 w (holds_of_blockI hb ht) hn (by simp only [maxLen] at hcap; omega) (by omega) (by omega)).mono ?_
    rintro e w' ⟨rfl, q, rfl⟩
    simp only [Int.toNat_natCast]
    have hlen : (l0.take i ++ l0.drop j).length = l0.length - (j - i) := by simp; omega
    have hPg : P0_ g := hok g rfl
    refine ⟨_, rfl, ⟨fun k hk => .inl (hok k hk), _, ⟨?_, .inr ⟨g, c, _, by rw [hlen], hg, slices_Delete_int_int.heap _ hb, by omega, hcap, ?_, ?_⟩⟩, Kd.reps_scalar _⟩, hB.trans (slices_Delete_int_int.below _ hg), slices_Delete_int_int.kept _ _ hPg⟩
    · show (List.map _ _).length = _ * 1
      rw [List.length_map, Nat.mul_one]
    · show _ = c * 1
      rw [Nat.mul_one]
      simpa [putCells] using hsz'
    · show List.take (_ * 1) _ = List.map _ _
      have e1 := take_putCellsI cur (l0.take i ++ l0.drop j ++ List.replicate (j - i) 0) (by simp; omega)
      have e2 := congrArg (List.take (l0.take i ++ l0.drop j).length) e1
      rw [List.take_take, Nat.min_eq_left (by simp)] at e2
      rw [Nat.mul_one, e2, List.map_append, List.take_append_of_le_length (by simp)]
      exact List.take_of_length_le (by simp)


end Go.Proofs.Ytmphbmpnenekgaa.Fn
namespace Go.Proofs.Ytmphbmpnenekgaa.Fn
open Go.RowKit Go.Proofs.YtmphbmpnenekgaaW.PrintWords Go.Proofs.YtmphbmpnenekgaaW.PrintLast Go.Proofs.YtmphbmpnenekgaaW.PrintMore
attribute [local go_sem] max2_int min2_int max_two min_two max_three min_three max_four min_four   -- for this text's walks alone
set_option linter.unusedVariables false
set_option linter.unusedSimpArgs false

/-! ### impl_SkolemOfExtended: function 45 -/
def impl_SkolemOfExtended.j0 : Nat → List Int → Int → Bool → Option (List Int × Bool)
  | 0, _, _, _ => none
  | k + 1, x0, x5, x23 => if x23 = true then (some (([] : List Int), false)) else ((slices_Clone_int_int.f x0).bind fun t594 => ((slices_Delete_int_int.f t594 x5 (wrap64 (x5 + 1))).bind fun t597 => (some (t597, true))))
def impl_SkolemOfExtended.f (k : Nat) (l0 : List Int) : Option (List Int × Bool) := (impl_extended.f k l0).bind fun bt592 => (if bt592.1 = 0 then (impl_SkolemOfExtended.j0 k l0 bt592.2 true) else (if bt592.2 = 0 then (impl_SkolemOfExtended.j0 k l0 bt592.2 false) else (impl_SkolemOfExtended.j0 k l0 bt592.2 (bt592.2 != (wrap64 ((l0.length : Int) - 1))))))
theorem impl_SkolemOfExtended.mono_l : ∀ k, (∀ y0 y1 y2, LeO (impl_SkolemOfExtended.j0 k y0 y1 y2) (impl_SkolemOfExtended.j0 (k + 1) y0 y1 y2))
  | 0 => fun _ _ _ r h => by simp [impl_SkolemOfExtended.j0] at h
  | k + 1 => by
    have ih0 := impl_SkolemOfExtended.mono_l k
    · intro y0 y1 y2
      unfold impl_SkolemOfExtended.j0
      repeat' first
      | (with_reducible exact ih0 _ _ _)
      | (with_reducible exact impl_extended.mono _ _)
      | (with_reducible exact LeO.refl _)
      | (with_reducible exact LeO.none _)
      | (with_reducible refine LeO.ite ?_ ?_)
      | (with_reducible refine LeO.bind ?_ (fun _ => ?_))
      | exact ih0 _ _ _
      | exact impl_extended.mono _ _
      | exact LeO.none _
      | refine LeO.ite ?_ ?_
      | refine LeO.bind ?_ (fun _ => ?_)
theorem impl_SkolemOfExtended.mono : ∀ a0 k, LeO (impl_SkolemOfExtended.f k a0) (impl_SkolemOfExtended.f (k + 1) a0) := by
  intro a0 k
  have ih0 := impl_SkolemOfExtended.mono_l k
  unfold impl_SkolemOfExtended.f
  repeat' first
      | (with_reducible exact ih0 _ _ _)
      | (with_reducible exact impl_extended.mono _ _)
      | (with_reducible exact LeO.refl _)
      | (with_reducible exact LeO.none _)
      | (with_reducible refine LeO.ite ?_ ?_)
      | (with_reducible refine LeO.bind ?_ (fun _ => ?_))
      | exact ih0 _ _ _
      | exact impl_extended.mono _ _
      | exact LeO.none _
      | refine LeO.ite ?_ ?_
      | refine LeO.bind ?_ (fun _ => ?_)
set_option maxHeartbeats 8000000 in
set_option maxRecDepth 100000 in
theorem impl_SkolemOfExtended.calls (k : Nat) (A0 : Option Addr) (c0 : Nat) (l0 : List Int) (r1 : List Int) (r2 : Bool) (w : World) (hr0 : Kd.C (Kd.int .i64) w A0 l0.length l0) (hc0 : l0.length ≤ c0) (h : impl_SkolemOfExtended.f k l0 = some (r1, r2)) :
    Calls Try.prog 45 #[.slice A0 l0.length c0] w fun e w' => ∃ v0_ : Value, e = .returned (.tuple #[v0_, .bool r2]) ∧ Kd.R (Kd.int .i64) 3 w' w.heap.size (fun _ => True) v0_ r1 ∧ Below w.heap.size w w' := by
  have HR0 := Aside0.mk hr0
  have HC0 := Aside0.mk hc0
  clear hr0 hc0
  have HB := Aside0.mk (Below.refl w.heap.size w)
  have H : ((impl_extended.f k l0).bind fun bt592 => (if bt592.1 = 0 then (impl_SkolemOfExtended.j0 k l0 bt592.2 true) else (if bt592.2 = 0 then (impl_SkolemOfExtended.j0 k l0 bt592.2 false) else (impl_SkolemOfExtended.j0 k l0 bt592.2 (bt592.2 != (wrap64 ((l0.length : Int) - 1))))))) = some (r1, r2) := h
  clear h
  replace H := Option.bind_eq_some_iff.mp H
  obtain ⟨⟨t592, t593⟩, A20, H⟩ := H
  replace H : (if t592 = 0 then (impl_SkolemOfExtended.j0 k l0 t593 true) else (if t593 = 0 then (impl_SkolemOfExtended.j0 k l0 t593 false) else (impl_SkolemOfExtended.j0 k l0 t593 (t593 != (wrap64 ((l0.length : Int) - 1)))))) = some (r1, r2) := H
  have A2 := Aside0.mk A20
  clear A20
  have HC3 := Aside0.mk H
  clear H
  go_enter Try.func45, Try.ntmps45
  go_upto_region 2 with (first | ((with_reducible refine gate_callee (f := 69) rfl ?_); refine goesL_ (some 8) rfl rfl Try.func69 (by kernel_rfl) rfl #[.slice A0 l0.length c0] rfl (by (try simp only [List.map_toArray, List.map_cons, List.map_nil]); first | done | rfl | (simp only [List.length_drop, List.length_take]; rfl)) ?_; (with_reducible refine (impl_extended.calls k _ _ l0 t592 t593 _ ?side1 ?side2 A2.out).mono ?_); (case side1 => repeat (first | exact HR0.out | (with_reducible refine Kd.C_alloc ?_ _) | (with_reducible refine Kd.C_drewN ?_ _) | (with_reducible refine Kd.C_drew ?_))); (case side2 => exact HC0.out); rintro e w4 ⟨rfl, hb⟩; refine ⟨_, rfl, ?_⟩; have n0_ := Aside0.mk (below_step (by repeat (first | (with_reducible first | exact HB.out | apply below_alloc | apply pw_below_drewN | apply below_drew1) | exact HB.out)) hb); clear HB; have HB := n0_; clear n0_; (try clear hb); (try clear hb2); (try clear hk); (try clear hi)))
  (try simp only [Act.put, List.setIfInBounds_toArray, List.set_cons_zero, List.set_cons_succ])
  go_cut [23] (fun v23 wc => ∃ (kq : Nat) (x23_2 : Bool), v23 = .bool x23_2 ∧ Aside0 (impl_SkolemOfExtended.j0 kq l0 t593 x23_2 = some (r1, r2)) ∧ Aside0 (kq ≤ k) ∧ Aside0 (Below w.heap.size w wc))
  case first =>
    have H := HC3.out
    clear HC3
    by_cases c5 : t592 = 0
    · rw [if_pos c5] at H
      have c5b0 : (t592 == 0) = true := beq_iff_eq.mpr c5
      have c5b1 : (t592 != 0) = false := bne_eq_false_iff_eq.mpr c5
      clear c5
      (first | rw [c5b0] | (simp only [i64_w, i32_w]; rw [c5b0]) | skip)
      have H' := Aside0.mk H
      clear H
      go_wp2
      go_meet
      case rel => exact ⟨_, (true), (by first | rfl | (simp; done) | (simp [*]; done)), H', ⟨by first | omega | exact Nat.le_refl _⟩, ⟨by repeat (first | (with_reducible first | exact HB.out | apply below_alloc | apply pw_below_drewN | apply below_drew1) | exact HB.out)⟩⟩
    · rw [if_neg c5] at H
      have c5b0 : (t592 == 0) = false := beq_eq_false_iff_ne.mpr c5
      have c5b1 : (t592 != 0) = true := bne_iff_ne.mpr c5
      (first | rw [c5b0] | (simp only [i64_w, i32_w]; rw [c5b0]) | skip)
      by_cases c6 : t593 = 0
      · rw [if_pos c6] at H
        have c6b0 : (t593 == 0) = true := beq_iff_eq.mpr c6
        have c6b1 : (t593 != 0) = false := bne_eq_false_iff_eq.mpr c6
        clear c6
        have H' := Aside0.mk H
        clear H
        go_wp2
        go_meet
        case rel => exact ⟨_, (false), (by first | rfl | (simp; done) | (simp [*]; done)), H', ⟨by first | omega | exact Nat.le_refl _⟩, ⟨by repeat (first | (with_reducible first | exact HB.out | apply below_alloc | apply pw_below_drewN | apply below_drew1) | exact HB.out)⟩⟩
      · rw [if_neg c6] at H
        have c6b0 : (t593 == 0) = false := beq_eq_false_iff_ne.mpr c6
        have c6b1 : (t593 != 0) = true := bne_iff_ne.mpr c6
        have H' := Aside0.mk H
        clear H
        go_wp2
        go_meet
        case rel => exact ⟨_, ((t593 != (wrap64 ((l0.length : Int) - 1)))), (by first | rfl | (simp; done) | (simp [*]; done)), H', ⟨by first | omega | exact Nat.le_refl _⟩, ⟨by repeat (first | (with_reducible first | exact HB.out | apply below_alloc | apply pw_below_drewN | apply below_drew1) | exact HB.out)⟩⟩
  case rest =>
    clear HC3
    try clear p2
    try clear c4
    try clear c5
    try clear c5b0
    try clear c5b1
    try clear c6
    try clear c6b0
    try clear c6b1
    try clear p6
    obtain ⟨kq, x23_2, rfl, HA, HJ2, HB⟩ := hcut
    cases kq with
    | zero => exact absurd HA.out (by simp [impl_SkolemOfExtended.j0])
    | succ kj2 =>
      have H := HA.out
      clear HA
      simp only [impl_SkolemOfExtended.j0] at H
      by_cases c7 : x23_2 = true
      · subst c7
        have H1 : (some (([] : List Int), false)) = some (r1, r2) := by rw [if_pos rfl] at H; exact H
        clear H
        have H := H1
        clear H1
        simp only [Option.some.injEq, Prod.mk.injEq] at H
        obtain ⟨rfl, rfl⟩ := H
        go_wp2
        go_ret2
        exact ⟨_, by first | rfl | (simp [errW_none, errW_some] <;> rfl) | (simp [*, errW_none, errW_some] <;> rfl), by first | exact Kd.R_nil _ _ _ _ _ | exact Kd.N_nil _ _ _ _ _ | exact Kd.V_nil _ _ _ _ _ | exact Kd.Q_nil _ _ _ _ _ | exact Kd.S_nil _ _ _ _ _, by repeat (first | (with_reducible first | exact HB.out | apply below_alloc | apply pw_below_drewN | apply below_drew1) | exact HB.out)⟩
      · replace c7 := Bool.eq_false_iff.mpr c7
        subst c7
        have H1 : ((slices_Clone_int_int.f l0).bind fun t594 => ((slices_Delete_int_int.f t594 t593 (wrap64 (t593 + 1))).bind fun t597 => (some (t597, true)))) = some (r1, r2) := by rw [if_neg (show ¬ (false = true) by decide)] at H; exact H
        clear H
        have H := H1
        clear H1
        replace H := Option.bind_eq_some_iff.mp H
        obtain ⟨t594, A80, H⟩ := H
        replace H : ((slices_Delete_int_int.f t594 t593 (wrap64 (t593 + 1))).bind fun t597 => (some (t597, true))) = some (r1, r2) := H
        have A8 := Aside0.mk A80
        clear A80
        replace H := Option.bind_eq_some_iff.mp H
        obtain ⟨t597, A90, H⟩ := H
        replace H : (some (t597, true)) = some (r1, r2) := H
        have A9 := Aside0.mk A90
        clear A90
        simp only [Option.some.injEq, Prod.mk.injEq] at H
        obtain ⟨rfl, rfl⟩ := H
        go_wp2_with (first | ((with_reducible refine gate_callee (f := 53) rfl ?_); refine goesL_ (some 25) rfl rfl Try.func53 (by kernel_rfl) rfl #[.slice A0 l0.length c0] rfl (by (try simp only [List.map_toArray, List.map_cons, List.map_nil]); first | done | rfl | (simp only [List.length_drop, List.length_take]; rfl)) ?_; (with_reducible refine (slices_Clone_int_int.calls _ _ l0 t594 _ ?side1 ?side2 A8.out).mono ?_); (case side1 => repeat (first | exact (Kd.C_below HR0.out HB.out) | (with_reducible refine Kd.C_alloc ?_ _) | (with_reducible refine Kd.C_drewN ?_ _) | (with_reducible refine Kd.C_drew ?_))); (case side2 => exact HC0.out); rintro e w10 ⟨v595, rfl, ho0, hb⟩; refine ⟨_, rfl, ?_⟩; have n0_ := Aside0.mk (Kd.R_lower ho0 (below_size (by repeat (first | (with_reducible first | exact HB.out | apply below_alloc | apply pw_below_drewN | apply below_drew1) | exact HB.out)))); have n1_ := Aside0.mk (below_step (by repeat (first | (with_reducible first | exact HB.out | apply below_alloc | apply pw_below_drewN | apply below_drew1) | exact HB.out)) hb); clear HB; have HO596 := n0_; have HB := n1_; clear n0_ n1_; (try clear hb); (try clear hb2); (try clear hk); (try clear hi); (try clear ho0); obtain ⟨Ao11, co11, eo11⟩ := Kd.R_slice HO596.out; subst eo11) | ((with_reducible refine gate_callee (f := 75) rfl ?_); refine goesL_ (some 29) rfl rfl Try.func75 (by kernel_rfl) rfl #[.slice Ao11 t594.length co11, .int .i64 t593, .int .i64 (wrap64 (t593 + 1))] rfl (by (try simp only [List.map_toArray, List.map_cons, List.map_nil]); first | done | rfl | (simp only [List.length_drop, List.length_take]; rfl)) ?_; (with_reducible refine (slices_Delete_int_int.calls (fun k_ => some k_ = (.slice Ao11 t594.length co11 : Value).ownBlock) (.slice Ao11 t594.length co11) t594 t593 (wrap64 (t593 + 1)) t597 w _ ?side1 ?side2 A9.out).mono ?_); (case side1 => repeat (first | (with_reducible first | exact HB.out | apply below_alloc | apply pw_below_drewN | apply below_drew1) | exact HB.out)); (case side2 => exact Kd.R_tight rfl HO596.out); rintro e w12 ⟨v598, rfl, ho0, hb, hkp⟩; refine ⟨_, rfl, ?_⟩; have n0_ := Aside0.mk (Kd.R_mono (ok' := fun k_ => True) ho0 (fun k_ hk_ => trivial)); have n1_ := Aside0.mk (hb); clear HB; clear HO596; have HO599 := n0_; have HB := n1_; clear n0_ n1_; (try clear hb); (try clear hkp); (try clear ho0)))
        go_ret2
        exact ⟨_, by first | rfl | (simp [errW_none, errW_some] <;> rfl) | (simp [*, errW_none, errW_some] <;> rfl), by (with_reducible repeat (first | apply Kd.R_alloc | apply Kd.R_drewN | apply Kd.R_drew)); exact HO599.out, by repeat (first | (with_reducible first | exact HB.out | apply below_alloc | apply pw_below_drewN | apply below_drew1) | exact HB.out)⟩

noncomputable def impl_SkolemOfExtended.J0 (x0 : List Int) (x5 : Int) (x23 : Bool) : Option (List Int × Bool) := lim fun k => impl_SkolemOfExtended.j0 k x0 x5 x23
theorem impl_SkolemOfExtended.J0_lim (x0 : List Int) (x5 : Int) (x23 : Bool) : Lim (fun k => impl_SkolemOfExtended.j0 k x0 x5 x23) (impl_SkolemOfExtended.J0 x0 x5 x23) := Lim.of fun k => (impl_SkolemOfExtended.mono_l k) x0 x5 x23
noncomputable def impl_SkolemOfExtended.F (l0 : List Int) : Option (List Int × Bool) := lim fun k => impl_SkolemOfExtended.f k l0
theorem impl_SkolemOfExtended.F_lim (l0 : List Int) : Lim (fun k => impl_SkolemOfExtended.f k l0) (impl_SkolemOfExtended.F l0) := Lim.of fun k => impl_SkolemOfExtended.mono l0 k
theorem impl_SkolemOfExtended.J0_eq (x0 : List Int) (x5 : Int) (x23 : Bool) : impl_SkolemOfExtended.J0 x0 x5 x23 = (if x23 = true then (some (([] : List Int), false)) else ((slices_Clone_int_int.f x0).bind fun t594 => ((slices_Delete_int_int.f t594 x5 (wrap64 (x5 + 1))).bind fun t597 => (some (t597, true))))) :=
  Lim.step (f := fun k => (if x23 = true then (some (([] : List Int), false)) else ((slices_Clone_int_int.f x0).bind fun t594 => ((slices_Delete_int_int.f t594 x5 (wrap64 (x5 + 1))).bind fun t597 => (some (t597, true)))))) (impl_SkolemOfExtended.J0_lim x0 x5 x23) (fun k => by first | rfl | rw [impl_SkolemOfExtended.j0]) (by
    repeat' first
    | (with_reducible exact Lim.const _)
    | (with_reducible refine Lim.ite ?_ ?_)
    | (with_reducible refine Lim.bind ?_ (fun _ => ?_)))
theorem impl_SkolemOfExtended.F_eq (l0 : List Int) : impl_SkolemOfExtended.F l0 = ((impl_extended.F l0).bind fun bt592 => (if bt592.1 = 0 then (impl_SkolemOfExtended.J0 l0 bt592.2 true) else (if bt592.2 = 0 then (impl_SkolemOfExtended.J0 l0 bt592.2 false) else (impl_SkolemOfExtended.J0 l0 bt592.2 (bt592.2 != (wrap64 ((l0.length : Int) - 1))))))) :=
  Lim.unique (impl_SkolemOfExtended.F_lim l0) (by
    unfold impl_SkolemOfExtended.f
    repeat' first
    | (with_reducible exact Lim.const _)
    | (with_reducible exact impl_SkolemOfExtended.J0_lim _ _ _)
    | (with_reducible exact impl_extended.F_lim _)
    | (with_reducible refine Lim.ite ?_ ?_)
    | (with_reducible refine Lim.bind ?_ (fun _ => ?_)))

end Go.Proofs.Ytmphbmpnenekgaa.Fn
namespace Go.Proofs.Ytmphbmpnenekgaa.Fn
open Go.RowKit Go.Proofs.YtmphbmpnenekgaaW.PrintWords Go.Proofs.YtmphbmpnenekgaaW.PrintLast Go.Proofs.YtmphbmpnenekgaaW.PrintMore
attribute [local go_sem] max2_int min2_int max_two min_two max_three min_three max_four min_four   -- for this text's walks alone
set_option linter.unusedVariables false
set_option linter.unusedSimpArgs false

/-! ### laws_toIntS: function 18 -/
def laws_toIntS.l0 : Nat → List Int → List Int → Int → Option (List Int)
  | 0, _, _, _ => none
  | k + 1, x0, x3, x4 => if x4 < (x0.length : Int) then (if 0 ≤ x4 then (if x4 < (x3.length : Int) then (laws_toIntS.l0 k x0 (x3.set (x4 : Int).toNat (rd x0 x4)) (wrap64 (x4 + 1))) else (none)) else (none)) else (some x3)
def laws_toIntS.f (k : Nat) (l0 : List Int) : Option (List Int) := if 0 ≤ (l0.length : Int) then (if ((l0.length : Int) : Int).toNat ≤ 35184372088832 then (laws_toIntS.l0 k l0 (List.replicate ((l0.length : Int) : Int).toNat 0) 0) else (none)) else (none)
theorem laws_toIntS.mono_l : ∀ k, (∀ y0 y1 y2, LeO (laws_toIntS.l0 k y0 y1 y2) (laws_toIntS.l0 (k + 1) y0 y1 y2))
  | 0 => fun _ _ _ r h => by simp [laws_toIntS.l0] at h
  | k + 1 => by
    have ih0 := laws_toIntS.mono_l k
    · intro y0 y1 y2
      unfold laws_toIntS.l0
      repeat' first
      | (with_reducible exact ih0 _ _ _)
      | (with_reducible exact LeO.refl _)
      | (with_reducible exact LeO.none _)
      | (with_reducible refine LeO.ite ?_ ?_)
      | (with_reducible refine LeO.bind ?_ (fun _ => ?_))
      | exact ih0 _ _ _
      | exact LeO.none _
      | refine LeO.ite ?_ ?_
      | refine LeO.bind ?_ (fun _ => ?_)
theorem laws_toIntS.mono : ∀ a0 k, LeO (laws_toIntS.f k a0) (laws_toIntS.f (k + 1) a0) := by
  intro a0 k
  have ih0 := laws_toIntS.mono_l k
  unfold laws_toIntS.f
  repeat' first
      | (with_reducible exact ih0 _ _ _)
      | (with_reducible exact LeO.refl _)
      | (with_reducible exact LeO.none _)
      | (with_reducible refine LeO.ite ?_ ?_)
      | (with_reducible refine LeO.bind ?_ (fun _ => ?_))
      | exact ih0 _ _ _
      | exact LeO.none _
      | refine LeO.ite ?_ ?_
      | refine LeO.bind ?_ (fun _ => ?_)
set_option maxHeartbeats 8000000 in
set_option maxRecDepth 100000 in
theorem laws_toIntS.calls (k : Nat) (A0 : Option Addr) (c0 : Nat) (l0 : List Int) (r : List Int) (w : World) (hr0 : Kd.C (Kd.int .i64) w A0 l0.length l0) (hc0 : l0.length ≤ c0) (h : laws_toIntS.f k l0 = some r) :
    Calls Try.prog 18 #[.slice A0 l0.length c0] w fun e w' => ∃ v0_ : Value, e = .returned (v0_) ∧ Kd.R (Kd.int .i64) 3 w' w.heap.size (fun _ => True) v0_ r ∧ Below w.heap.size w w' := by
  have HR0 := Aside0.mk hr0
  have HC0 := Aside0.mk hc0
  clear hr0 hc0
  have HB := Aside0.mk (Below.refl w.heap.size w)
  have H : (if 0 ≤ (l0.length : Int) then (if ((l0.length : Int) : Int).toNat ≤ 35184372088832 then (laws_toIntS.l0 k l0 (List.replicate ((l0.length : Int) : Int).toNat 0) 0) else (none)) else (none)) = some r := h
  clear h
  by_cases c2 : 0 ≤ (l0.length : Int)
  · rw [if_pos c2] at H
    have c2b0 := eq_true c2
    have c2b1 : decide (0 ≤ (l0.length : Int)) = true := decide_eq_true c2
    clear c2
    by_cases c3 : ((l0.length : Int) : Int).toNat ≤ 35184372088832
    · rw [if_pos c3] at H
      have c3b0 := eq_true c3
      have c3b1 : decide (((l0.length : Int) : Int).toNat ≤ 35184372088832) = true := decide_eq_true c3
      clear c3
      obtain ⟨y131, hy131⟩ : ∃ y_ : List Int, y_ = (List.replicate ((l0.length : Int) : Int).toNat 0) := ⟨_, rfl⟩
      replace H : (laws_toIntS.l0 k l0 y131 0) = some r := by first | (rw [hy131]; with_reducible exact H) | (have H2_ := (Option.bind_some _ _).symm.trans H; rw [hy131]; with_reducible exact H2_) | (have H2_ := (Option.bind_some _ _).symm.trans H; with_reducible exact H2_) | with_reducible exact H | (rw [hy131]; exact H) | exact H
      have Ny131 := Aside0.mk hy131
      clear hy131
      have H' := Aside0.mk H
      clear H
      go_enter Try.func18, Try.ntmps18
      go_wp2_with (first | ((with_reducible refine gate_dst (N := 7) rfl ?_); refine Kd.R_make (Kd.int .i64) _ 3 rfl (N := 7) rfl 25 _ _ rfl (l0.length : Int) rfl rfl Try.underlying25 (.int .i64 0) 8 info3 rfl (by decide) (by omega) 0 (ok := fun _ => True) (okp := fun _ => True) rfl (fun _ hk => hk) trivial (of_decide_eq_true (by first | (with_reducible assumption) | assumption)) (Nat.le_trans (Nat.mul_le_mul_right _ (of_decide_eq_true (by first | (with_reducible assumption) | assumption) : (l0.length : Int).toNat ≤ 35184372088832)) (by omega)) (Below.refl _ _) (Nat.le_refl _) ?_; intro v132 w4 ho5 hb hg_ hnew_; clear hg_ hnew_; (first | rw [← Ny131.out] at ho5 | (simp only [Int.reduceToNat] at ho5; rw [← Ny131.out] at ho5)); have n0_ := Aside0.mk (Kd.R_lower ho5 (below_size (by repeat (first | (with_reducible first | exact HB.out | apply below_alloc | apply pw_below_drewN | apply below_drew1) | exact HB.out)))); have n1_ := Aside0.mk (below_step (by repeat (first | (with_reducible first | exact HB.out | apply below_alloc | apply pw_below_drewN | apply below_drew1) | exact HB.out)) hb); clear HB; have HO133 := n0_; have HB := n1_; clear n0_ n1_; clear hb ho5))
      go_loopg [4] k (fun kq v4 w' => ∃ (x3_1 : List Int) (x4_1 : Int), v4 = .int .i64 x4_1 ∧ Aside0 (laws_toIntS.l0 kq l0 x3_1 x4_1 = some r) ∧ Aside0 (kq ≤ k) ∧ Aside0 (Kd.R (Kd.int .i64) 3 w' w.heap.size (fun _ => True) v132 x3_1) ∧ Aside0 (Below w.heap.size w w'))
      case atStart => exact ⟨(y131), (0), (by first | rfl | (simp; done) | (simp [*]; done)), H', ⟨Nat.le_refl _⟩, ⟨by (with_reducible repeat (first | apply Kd.R_alloc | apply Kd.R_drewN | apply Kd.R_drew)); exact HO133.out⟩, ⟨by repeat (first | (with_reducible first | exact HB.out | apply below_alloc | apply pw_below_drewN | apply below_drew1) | exact HB.out)⟩⟩
      case round =>
        clear H'
        try clear c1
        try clear c2
        try clear c2b0
        try clear c2b1
        try clear p2
        try clear c3
        try clear c3b0
        try clear c3b1
        obtain ⟨x3_1, x4_1, rfl, HA, HK1, HO_3, HB⟩ := hrel
        cases gk with
        | zero => exact absurd HA.out (by simp [laws_toIntS.l0])
        | succ k1 =>
          have H := HA.out
          clear HA
          simp only [laws_toIntS.l0] at H
          by_cases c6 : x4_1 < (l0.length : Int)
          · rw [if_pos c6] at H
            have c6b0 : decide (x4_1 < (l0.length : Int)) = true := decide_eq_true c6
            clear c6
            by_cases c7 : 0 ≤ x4_1
            · rw [if_pos c7] at H
              have c7b0 : decide (0 ≤ x4_1) = true := decide_eq_true c7
              clear c7
              by_cases c8 : x4_1 < (x3_1.length : Int)
              · rw [if_pos c8] at H
                have c8b0 : decide (x4_1 < (x3_1.length : Int)) = true := decide_eq_true c8
                clear c8
                obtain ⟨y135, hy135⟩ : ∃ y_ : List Int, y_ = (x3_1.set (x4_1 : Int).toNat (rd l0 x4_1)) := ⟨_, rfl⟩
                replace H : (laws_toIntS.l0 k1 l0 y135 (wrap64 (x4_1 + 1))) = some r := by first | (rw [hy135]; with_reducible exact H) | (have H2_ := (Option.bind_some _ _).symm.trans H; rw [hy135]; with_reducible exact H2_) | (have H2_ := (Option.bind_some _ _).symm.trans H; with_reducible exact H2_) | with_reducible exact H | (rw [hy135]; exact H) | exact H
                have Ny135 := Aside0.mk hy135
                clear hy135
                have H' := Aside0.mk H
                clear H
                have p134 : 0 ≤ (x4_1 : Int) := of_decide_eq_true (by first | (with_reducible assumption) | assumption)
                have q134 : x4_1 < (l0.length : Int) := of_decide_eq_true (by first | (with_reducible assumption) | assumption)
                obtain ⟨ad134, e134, hx134_0⟩ := Kd.at_int HR0.out x4_1 p134 q134
                cases e134
                replace hx134_0 := (HB.out.cell (World.block_lt_of_cell? w _ hx134_0)).trans hx134_0
                replace p134 := eq_true p134
                replace q134 := eq_true q134
                have p9 : 0 ≤ (x4_1 : Int) := of_decide_eq_true (by first | (with_reducible assumption) | assumption)
                have q9 : (x4_1 : Int) < ((x3_1.length : Int) : Int) := of_decide_eq_true (by first | (with_reducible assumption) | assumption)
                obtain ⟨go9, co9, eo9, gb9, gl9, cl9, HG9⟩ := Kd.R_form HO_3.out (by omega)
                (first | cases eo9 | (injection eo9 with ea_ en_ ec_; (first | subst ea_ | (injection ea_ with ea_; subst ea_)); subst ec_; clear en_))
                have GB9 := Aside0.mk gb9
                have GG9 := Aside0.mk HG9
                clear gb9 gl9 HG9
                obtain ⟨hx9_0, hf9_0⟩ := Kd.R_celln 0 HO_3.out (x4_1 : Int) p9 q9
                replace p9 := eq_true p9
                replace q9 := eq_true q9
                have HP10 := Kd.R_putg HO_3.out (x4_1 : Int) (rd l0 x4_1)
                go_wp2_with (first | ((with_reducible refine gate_store (t := 3) (p := 20) rfl ?_); refine store_event (t := 3) (p := 20) (v := ?vo_w11) (w1 := (wr.setCell ⟨go9, (x4_1 : Int).toNat, none⟩ (.int .i64 (rd l0 x4_1)))) ?hg ?ho ?hn ?hr ?_; (case ho => rfl); (case hg => rfl); (case hn => rfl); (case hr => first | (go_simp; done) | (go_simp; rfl)); intro w11 hw; have hg : wr.grownBy w11 (some go9) := (by rw [hw]; exact HP10.2); have hp_ : Kd.R (Kd.int .i64) 3 w11 w.heap.size (fun _ => True) (.slice (some ⟨go9, 0, none⟩) x3_1.length co9) y135 := (by rw [hw, Ny135.out]; exact HP10.1); clear HP10; have n0_ := Aside0.mk (hp_); have n1_ := Aside0.mk ((by rw [hw]; exact below_set (HB.out) GB9.out : Below w.heap.size w w11)); clear HO_3; clear HB; have HO_3 := n0_; have HB := n1_; clear n0_ n1_; clear hg hw hp_))
                go_roundg k1
                case measure => have := HK1.out; omega
                case rel => exact ⟨(y135), (wrap64 (x4_1 + 1)), (by first | rfl | (simp; done) | (simp [*]; done)), H', ⟨by have := HK1.out; omega⟩, ⟨by (with_reducible repeat (first | apply Kd.R_alloc | apply Kd.R_drewN | apply Kd.R_drew)); exact HO_3.out⟩, ⟨by repeat (first | (with_reducible first | exact HB.out | apply below_alloc | apply pw_below_drewN | apply below_drew1) | exact HB.out)⟩⟩
              · rw [if_neg c8] at H
                exact absurd H (by simp)
            · rw [if_neg c7] at H
              exact absurd H (by simp)
          · rw [if_neg c6] at H
            have c6b0 : decide (x4_1 < (l0.length : Int)) = false := decide_eq_false c6
            clear c6
            obtain rfl := Option.some.inj H
            go_wp2
            go_ret
            exact ⟨_, by first | rfl | (simp [errW_none, errW_some] <;> rfl) | (simp [*, errW_none, errW_some] <;> rfl), by (with_reducible repeat (first | apply Kd.R_alloc | apply Kd.R_drewN | apply Kd.R_drew)); exact HO_3.out, by repeat (first | (with_reducible first | exact HB.out | apply below_alloc | apply pw_below_drewN | apply below_drew1) | exact HB.out)⟩
    · rw [if_neg c3] at H
      exact absurd H (by simp)
  · rw [if_neg c2] at H
    exact absurd H (by simp)

noncomputable def laws_toIntS.L0 (x0 : List Int) (x3 : List Int) (x4 : Int) : Option (List Int) := lim fun k => laws_toIntS.l0 k x0 x3 x4
theorem laws_toIntS.L0_lim (x0 : List Int) (x3 : List Int) (x4 : Int) : Lim (fun k => laws_toIntS.l0 k x0 x3 x4) (laws_toIntS.L0 x0 x3 x4) := Lim.of fun k => (laws_toIntS.mono_l k) x0 x3 x4
noncomputable def laws_toIntS.F (l0 : List Int) : Option (List Int) := lim fun k => laws_toIntS.f k l0
theorem laws_toIntS.F_lim (l0 : List Int) : Lim (fun k => laws_toIntS.f k l0) (laws_toIntS.F l0) := Lim.of fun k => laws_toIntS.mono l0 k
theorem laws_toIntS.L0_eq (x0 : List Int) (x3 : List Int) (x4 : Int) : laws_toIntS.L0 x0 x3 x4 = (if x4 < (x0.length : Int) then (if 0 ≤ x4 then (if x4 < (x3.length : Int) then (laws_toIntS.L0 x0 (x3.set (x4 : Int).toNat (rd x0 x4)) (wrap64 (x4 + 1))) else (none)) else (none)) else (some x3)) :=
  Lim.step (f := fun k => (if x4 < (x0.length : Int) then (if 0 ≤ x4 then (if x4 < (x3.length : Int) then (laws_toIntS.l0 k x0 (x3.set (x4 : Int).toNat (rd x0 x4)) (wrap64 (x4 + 1))) else (none)) else (none)) else (some x3))) (laws_toIntS.L0_lim x0 x3 x4) (fun k => by first | rfl | rw [laws_toIntS.l0]) (by
    repeat' first
    | (with_reducible exact Lim.const _)
    | (with_reducible exact laws_toIntS.L0_lim _ _ _)
    | (with_reducible refine Lim.ite ?_ ?_)
    | (with_reducible refine Lim.bind ?_ (fun _ => ?_)))
theorem laws_toIntS.F_eq (l0 : List Int) : laws_toIntS.F l0 = (if 0 ≤ (l0.length : Int) then (if ((l0.length : Int) : Int).toNat ≤ 35184372088832 then (laws_toIntS.L0 l0 (List.replicate ((l0.length : Int) : Int).toNat 0) 0) else (none)) else (none)) :=
  Lim.unique (laws_toIntS.F_lim l0) (by
    unfold laws_toIntS.f
    repeat' first
    | (with_reducible exact Lim.const _)
    | (with_reducible exact laws_toIntS.L0_lim _ _ _)
    | (with_reducible refine Lim.ite ?_ ?_)
    | (with_reducible refine Lim.bind ?_ (fun _ => ?_)))

end Go.Proofs.Ytmphbmpnenekgaa.Fn
namespace Go.Proofs.Ytmphbmpnenekgaa.Fn
open Go.RowKit Go.Proofs.YtmphbmpnenekgaaW.PrintWords Go.Proofs.YtmphbmpnenekgaaW.PrintLast Go.Proofs.YtmphbmpnenekgaaW.PrintMore
attribute [local go_sem] max2_int min2_int max_two min_two max_three min_three max_four min_four   -- for this text's walks alone
set_option linter.unusedVariables false
set_option linter.unusedSimpArgs false

/-! ### laws_eqIntS: function 20 -/
def laws_eqIntS.l0 : Nat → List Int → List Int → Int → Option (Bool)
  | 0, _, _, _ => none
  | k + 1, x0, x1, x5 => if x5 < (x0.length : Int) then (if 0 ≤ x5 then (if x5 < (x1.length : Int) then (if (rd x0 x5) = (rd x1 x5) then (laws_eqIntS.l0 k x0 x1 (wrap64 (x5 + 1))) else (some false)) else (none)) else (none)) else (some true)
def laws_eqIntS.f (k : Nat) (l0 : List Int) (l1 : List Int) : Option (Bool) := if (l0.length : Int) = (l1.length : Int) then (laws_eqIntS.l0 k l0 l1 0) else (some false)
theorem laws_eqIntS.mono_l : ∀ k, (∀ y0 y1 y2, LeO (laws_eqIntS.l0 k y0 y1 y2) (laws_eqIntS.l0 (k + 1) y0 y1 y2))
  | 0 => fun _ _ _ r h => by simp [laws_eqIntS.l0] at h
  | k + 1 => by
    have ih0 := laws_eqIntS.mono_l k
    · intro y0 y1 y2
      unfold laws_eqIntS.l0
      repeat' first
      | (with_reducible exact ih0 _ _ _)
      | (with_reducible exact LeO.refl _)
      | (with_reducible exact LeO.none _)
      | (with_reducible refine LeO.ite ?_ ?_)
      | (with_reducible refine LeO.bind ?_ (fun _ => ?_))
      | exact ih0 _ _ _
      | exact LeO.none _
      | refine LeO.ite ?_ ?_
      | refine LeO.bind ?_ (fun _ => ?_)
theorem laws_eqIntS.mono : ∀ a0 a1 k, LeO (laws_eqIntS.f k a0 a1) (laws_eqIntS.f (k + 1) a0 a1) := by
  intro a0 a1 k
  have ih0 := laws_eqIntS.mono_l k
  unfold laws_eqIntS.f
  repeat' first
      | (with_reducible exact ih0 _ _ _)
      | (with_reducible exact LeO.refl _)
      | (with_reducible exact LeO.none _)
      | (with_reducible refine LeO.ite ?_ ?_)
      | (with_reducible refine LeO.bind ?_ (fun _ => ?_))
      | exact ih0 _ _ _
      | exact LeO.none _
      | refine LeO.ite ?_ ?_
      | refine LeO.bind ?_ (fun _ => ?_)
set_option maxHeartbeats 8000000 in
set_option maxRecDepth 100000 in
theorem laws_eqIntS.calls (k : Nat) (A0 : Option Addr) (c0 : Nat) (l0 : List Int) (A1 : Option Addr) (c1 : Nat) (l1 : List Int) (r : Bool) (w : World) (hr0 : Kd.C (Kd.int .i64) w A0 l0.length l0) (hc0 : l0.length ≤ c0) (hr1 : Kd.C (Kd.int .i64) w A1 l1.length l1) (hc1 : l1.length ≤ c1) (h : laws_eqIntS.f k l0 l1 = some r) :
    Calls Try.prog 20 #[.slice A0 l0.length c0, .slice A1 l1.length c1] w fun e w' => e = .returned (.bool r) ∧ Drawn0 w w' := by
  have HR0 := Aside0.mk hr0
  have HC0 := Aside0.mk hc0
  clear hr0 hc0
  have HR1 := Aside0.mk hr1
  have HC1 := Aside0.mk hc1
  clear hr1 hc1
  have H : (if (l0.length : Int) = (l1.length : Int) then (laws_eqIntS.l0 k l0 l1 0) else (some false)) = some r := h
  clear h
  by_cases c3 : (l0.length : Int) = (l1.length : Int)
  · rw [if_pos c3] at H
    have c3b0 : ((l0.length : Int) == (l1.length : Int)) = true := beq_iff_eq.mpr c3
    have c3b1 : ((l0.length : Int) != (l1.length : Int)) = false := bne_eq_false_iff_eq.mpr c3
    have c3b2 : (l0.length == l1.length) = true := by first | simpa using c3 | (simp at c3 ⊢; omega)
    clear c3
    have H' := Aside0.mk H
    clear H
    go_enter Try.func20, Try.ntmps20
    go_wp2
    repeat (go_quiet (fail); try go_wp2)
    go_loopg [5] k (fun kq v5 w' => ∃ (x5_1 : Int), v5 = .int .i64 x5_1 ∧ Aside0 (laws_eqIntS.l0 kq l0 l1 x5_1 = some r) ∧ Aside0 (kq ≤ k) ∧ Drawn0 w w')
    case atStart => exact ⟨(0), (by first | rfl | (simp; done) | (simp [*]; done)), H', ⟨Nat.le_refl _⟩, by repeat (first | exact Drawn0.refl _ | apply Drawn0.step)⟩
    case round =>
      clear H'
      try clear c1
      try clear c2
      try clear p2
      try clear c3
      try clear c3b0
      try clear c3b1
      try clear c3b2
      obtain ⟨x5_1, rfl, HA, HK1, ⟨m1, rfl⟩⟩ := hrel
      cases gk with
      | zero => exact absurd HA.out (by simp [laws_eqIntS.l0])
      | succ k1 =>
        have H := HA.out
        clear HA
        simp only [laws_eqIntS.l0] at H
        by_cases c4 : x5_1 < (l0.length : Int)
        · rw [if_pos c4] at H
          have c4b0 : decide (x5_1 < (l0.length : Int)) = true := decide_eq_true c4
          clear c4
          by_cases c5 : 0 ≤ x5_1
          · rw [if_pos c5] at H
            have c5b0 : decide (0 ≤ x5_1) = true := decide_eq_true c5
            clear c5
            by_cases c6 : x5_1 < (l1.length : Int)
            · rw [if_pos c6] at H
              have c6b0 : decide (x5_1 < (l1.length : Int)) = true := decide_eq_true c6
              clear c6
              by_cases c7 : (rd l0 x5_1) = (rd l1 x5_1)
              · rw [if_pos c7] at H
                have c7b0 : ((rd l0 x5_1) == (rd l1 x5_1)) = true := beq_iff_eq.mpr c7
                have c7b1 : ((rd l0 x5_1) != (rd l1 x5_1)) = false := bne_eq_false_iff_eq.mpr c7
                clear c7
                have H' := Aside0.mk H
                clear H
                have p150 : 0 ≤ (x5_1 : Int) := of_decide_eq_true (by first | (with_reducible assumption) | assumption)
                have q150 : x5_1 < (l0.length : Int) := of_decide_eq_true (by first | (with_reducible assumption) | assumption)
                obtain ⟨ad150, e150, hx150_0⟩ := Kd.at_int HR0.out x5_1 p150 q150
                cases e150
                replace p150 := eq_true p150
                replace q150 := eq_true q150
                have p151 : 0 ≤ (x5_1 : Int) := of_decide_eq_true (by first | (with_reducible assumption) | assumption)
                have q151 : x5_1 < (l1.length : Int) := of_decide_eq_true (by first | (with_reducible assumption) | assumption)
                obtain ⟨ad151, e151, hx151_0⟩ := Kd.at_int HR1.out x5_1 p151 q151
                cases e151
                replace p151 := eq_true p151
                replace q151 := eq_true q151
                go_wp2
                repeat (go_quiet (fail); try go_wp2)
                go_roundg k1
                case measure => have := HK1.out; omega
                case rel => exact ⟨(wrap64 (x5_1 + 1)), (by first | rfl | (simp; done) | (simp [*]; done)), H', ⟨by have := HK1.out; omega⟩, by repeat (first | exact Drawn0.refl _ | apply Drawn0.step)⟩
              · rw [if_neg c7] at H
                have c7b0 : ((rd l0 x5_1) == (rd l1 x5_1)) = false := beq_eq_false_iff_ne.mpr c7
                have c7b1 : ((rd l0 x5_1) != (rd l1 x5_1)) = true := bne_iff_ne.mpr c7
                obtain rfl := Option.some.inj H
                have p150 : 0 ≤ (x5_1 : Int) := of_decide_eq_true (by first | (with_reducible assumption) | assumption)
                have q150 : x5_1 < (l0.length : Int) := of_decide_eq_true (by first | (with_reducible assumption) | assumption)
                obtain ⟨ad150, e150, hx150_0⟩ := Kd.at_int HR0.out x5_1 p150 q150
                cases e150
                replace p150 := eq_true p150
                replace q150 := eq_true q150
                have p151 : 0 ≤ (x5_1 : Int) := of_decide_eq_true (by first | (with_reducible assumption) | assumption)
                have q151 : x5_1 < (l1.length : Int) := of_decide_eq_true (by first | (with_reducible assumption) | assumption)
                obtain ⟨ad151, e151, hx151_0⟩ := Kd.at_int HR1.out x5_1 p151 q151
                cases e151
                replace p151 := eq_true p151
                replace q151 := eq_true q151
                go_wp2
                repeat (go_quiet (fail); try go_wp2)
                go_ret
                exact ⟨by first | rfl | (simp; done) | (simp [*]; done), by repeat (first | exact Drawn0.refl _ | apply Drawn0.step)⟩
            · rw [if_neg c6] at H
              exact absurd H (by simp)
          · rw [if_neg c5] at H
            exact absurd H (by simp)
        · rw [if_neg c4] at H
          have c4b0 : decide (x5_1 < (l0.length : Int)) = false := decide_eq_false c4
          clear c4
          obtain rfl := Option.some.inj H
          go_wp2
          repeat (go_quiet (fail); try go_wp2)
          go_ret
          exact ⟨by first | rfl | (simp; done) | (simp [*]; done), by repeat (first | exact Drawn0.refl _ | apply Drawn0.step)⟩
  · rw [if_neg c3] at H
    have c3b0 : ((l0.length : Int) == (l1.length : Int)) = false := beq_eq_false_iff_ne.mpr c3
    have c3b1 : ((l0.length : Int) != (l1.length : Int)) = true := bne_iff_ne.mpr c3
    have c3b2 : (l0.length == l1.length) = false := by first | simpa using c3 | (simp at c3 ⊢; omega)
    obtain rfl := Option.some.inj H
    go_enter Try.func20, Try.ntmps20
    go_wp2
    repeat (go_quiet (fail); try go_wp2)
    go_ret
    exact ⟨by first | rfl | (simp; done) | (simp [*]; done), by repeat (first | exact Drawn0.refl _ | apply Drawn0.step)⟩

noncomputable def laws_eqIntS.L0 (x0 : List Int) (x1 : List Int) (x5 : Int) : Option (Bool) := lim fun k => laws_eqIntS.l0 k x0 x1 x5
theorem laws_eqIntS.L0_lim (x0 : List Int) (x1 : List Int) (x5 : Int) : Lim (fun k => laws_eqIntS.l0 k x0 x1 x5) (laws_eqIntS.L0 x0 x1 x5) := Lim.of fun k => (laws_eqIntS.mono_l k) x0 x1 x5
noncomputable def laws_eqIntS.F (l0 : List Int) (l1 : List Int) : Option (Bool) := lim fun k => laws_eqIntS.f k l0 l1
theorem laws_eqIntS.F_lim (l0 : List Int) (l1 : List Int) : Lim (fun k => laws_eqIntS.f k l0 l1) (laws_eqIntS.F l0 l1) := Lim.of fun k => laws_eqIntS.mono l0 l1 k
theorem laws_eqIntS.L0_eq (x0 : List Int) (x1 : List Int) (x5 : Int) : laws_eqIntS.L0 x0 x1 x5 = (if x5 < (x0.length : Int) then (if 0 ≤ x5 then (if x5 < (x1.length : Int) then (if (rd x0 x5) = (rd x1 x5) then (laws_eqIntS.L0 x0 x1 (wrap64 (x5 + 1))) else (some false)) else (none)) else (none)) else (some true)) :=
  Lim.step (f := fun k => (if x5 < (x0.length : Int) then (if 0 ≤ x5 then (if x5 < (x1.length : Int) then (if (rd x0 x5) = (rd x1 x5) then (laws_eqIntS.l0 k x0 x1 (wrap64 (x5 + 1))) else (some false)) else (none)) else (none)) else (some true))) (laws_eqIntS.L0_lim x0 x1 x5) (fun k => by first | rfl | rw [laws_eqIntS.l0]) (by
    repeat' first
    | (with_reducible exact Lim.const _)
    | (with_reducible exact laws_eqIntS.L0_lim _ _ _)
    | (with_reducible refine Lim.ite ?_ ?_)
    | (with_reducible refine Lim.bind ?_ (fun _ => ?_)))
theorem laws_eqIntS.F_eq (l0 : List Int) (l1 : List Int) : laws_eqIntS.F l0 l1 = (if (l0.length : Int) = (l1.length : Int) then (laws_eqIntS.L0 l0 l1 0) else (some false)) :=
  Lim.unique (laws_eqIntS.F_lim l0 l1) (by
    unfold laws_eqIntS.f
    repeat' first
    | (with_reducible exact Lim.const _)
    | (with_reducible exact laws_eqIntS.L0_lim _ _ _)
    | (with_reducible refine Lim.ite ?_ ?_)
    | (with_reducible refine Lim.bind ?_ (fun _ => ?_)))

end Go.Proofs.Ytmphbmpnenekgaa.Fn
namespace Go.Proofs.Ytmphbmpnenekgaa.Fn
open Go.RowKit Go.Proofs.YtmphbmpnenekgaaW.PrintWords Go.Proofs.YtmphbmpnenekgaaW.PrintLast Go.Proofs.YtmphbmpnenekgaaW.PrintMore
attribute [local go_sem] max2_int min2_int max_two min_two max_three min_three max_four min_four   -- for this text's walks alone
set_option linter.unusedVariables false
set_option linter.unusedSimpArgs false

/-! ### laws_markIntS: function 21 -/
def laws_markIntS.l0 : Nat → List Int → Int → Int → Option (Int × List Int)
  | 0, _, _, _ => none
  | k + 1, x0, x1, x5 => if x5 < (x0.length : Int) then (if 0 ≤ x5 then (laws_markIntS.l0 k (x0.set (x5 : Int).toNat x1) (wrap64 (x1 + 1)) (wrap64 (x5 + 1))) else (none)) else (some (x1, x0))
def laws_markIntS.f (k : Nat) (l0 : List Int) (a1 : Int) : Option (Int × List Int) := laws_markIntS.l0 k l0 a1 0
theorem laws_markIntS.mono_l : ∀ k, (∀ y0 y1 y2, LeO (laws_markIntS.l0 k y0 y1 y2) (laws_markIntS.l0 (k + 1) y0 y1 y2))
  | 0 => fun _ _ _ r h => by simp [laws_markIntS.l0] at h
  | k + 1 => by
    have ih0 := laws_markIntS.mono_l k
    · intro y0 y1 y2
      unfold laws_markIntS.l0
      repeat' first
      | (with_reducible exact ih0 _ _ _)
      | (with_reducible exact LeO.refl _)
      | (with_reducible exact LeO.none _)
      | (with_reducible refine LeO.ite ?_ ?_)
      | (with_reducible refine LeO.bind ?_ (fun _ => ?_))
      | exact ih0 _ _ _
      | exact LeO.none _
      | refine LeO.ite ?_ ?_
      | refine LeO.bind ?_ (fun _ => ?_)
theorem laws_markIntS.mono : ∀ a0 a1 k, LeO (laws_markIntS.f k a0 a1) (laws_markIntS.f (k + 1) a0 a1) := by
  intro a0 a1 k
  have ih0 := laws_markIntS.mono_l k
  unfold laws_markIntS.f
  repeat' first
      | (with_reducible exact ih0 _ _ _)
      | (with_reducible exact LeO.refl _)
      | (with_reducible exact LeO.none _)
      | (with_reducible refine LeO.ite ?_ ?_)
      | (with_reducible refine LeO.bind ?_ (fun _ => ?_))
      | exact ih0 _ _ _
      | exact LeO.none _
      | refine LeO.ite ?_ ?_
      | refine LeO.bind ?_ (fun _ => ?_)
set_option maxHeartbeats 8000000 in
set_option maxRecDepth 100000 in
theorem laws_markIntS.calls (k : Nat) (P0_ : Nat → Prop) (u9000_ : Value) (l0 : List Int) (a1 : Int) (r1 : Int) (r2 : List Int) (w0 w : World) (hB : Below w0.heap.size w0 w) (ho0 : Kd.R (Kd.int .i64) 3 w w0.heap.size P0_ u9000_ l0) (h : laws_markIntS.f k l0 a1 = some (r1, r2)) :
    Calls Try.prog 21 #[u9000_, .int .i64 a1] w fun e w' => e = .returned (.int .i64 r1) ∧ Kd.R (Kd.int .i64) 3 w' w0.heap.size (fun k_ => (P0_ k_ ∨ w.heap.size ≤ k_)) u9000_ r2 ∧ Below w0.heap.size w0 w' ∧ Kept w w' (fun k_ => P0_ k_) := by
  have HO0 := Aside0.mk (show Kd.R (Kd.int .i64) 3 w w0.heap.size (fun k_ => (P0_ k_ ∨ w.heap.size ≤ k_)) u9000_ l0 from Kd.R_mono ho0 (fun k_ hk => (.inl hk)))
  have HK := Aside0.mk (Kept.refl w (fun k_ => P0_ k_))
  have HW0 := Aside0.mk hB.size
  have HB := Aside0.mk hB
  clear hB
  have H : (laws_markIntS.l0 k l0 a1 0) = some (r1, r2) := h
  clear h
  have H' := Aside0.mk H
  clear H
  go_enter Try.func21, Try.ntmps21
  go_wp2
  go_loopg [1, 5] k (fun kq v1 v5 w' => ∃ (x0_1 : List Int) (x1_1 : Int) (x5_1 : Int), v1 = .int .i64 x1_1 ∧ v5 = .int .i64 x5_1 ∧ Aside0 (laws_markIntS.l0 kq x0_1 x1_1 x5_1 = some (r1, r2)) ∧ Aside0 (kq ≤ k) ∧ Aside0 (Kd.R (Kd.int .i64) 3 w' w0.heap.size (fun k_ => (P0_ k_ ∨ w.heap.size ≤ k_)) u9000_ x0_1) ∧ Aside0 (Kept w w' (fun k_ => P0_ k_)) ∧ Aside0 (Below w0.heap.size w0 w'))
  case atStart => exact ⟨(l0), (a1), (0), (by first | rfl | (simp; done) | (simp [*]; done)), (by first | rfl | (simp; done) | (simp [*]; done)), H', ⟨Nat.le_refl _⟩, ⟨by (with_reducible repeat (first | apply Kd.R_alloc | apply Kd.R_drewN | apply Kd.R_drew)); exact HO0.out⟩, ⟨by repeat (first | (with_reducible first | exact HK.out | apply Kept.alloc | apply Kept.drewN | apply Kept.drew) | exact HK.out)⟩, ⟨by repeat (first | (with_reducible first | exact HB.out | apply below_alloc | apply pw_below_drewN | apply below_drew1) | exact HB.out)⟩⟩
  case round =>
    clear H'
    try clear c2
    try clear p2
    obtain ⟨x0_1, x1_1, x5_1, rfl, rfl, HA, HK1, HO_0, HK, HB⟩ := hrel
    cases gk with
    | zero => exact absurd HA.out (by simp [laws_markIntS.l0])
    | succ k1 =>
      have H := HA.out
      clear HA
      simp only [laws_markIntS.l0] at H
      by_cases c3 : x5_1 < (x0_1.length : Int)
      · rw [if_pos c3] at H
        have c3b0 : decide (x5_1 < (x0_1.length : Int)) = true := decide_eq_true c3
        clear c3
        by_cases c4 : 0 ≤ x5_1
        · rw [if_pos c4] at H
          have c4b0 : decide (0 ≤ x5_1) = true := decide_eq_true c4
          clear c4
          obtain ⟨y152, hy152⟩ : ∃ y_ : List Int, y_ = (x0_1.set (x5_1 : Int).toNat x1_1) := ⟨_, rfl⟩
          replace H : (laws_markIntS.l0 k1 y152 (wrap64 (x1_1 + 1)) (wrap64 (x5_1 + 1))) = some (r1, r2) := by first | (rw [hy152]; with_reducible exact H) | (have H2_ := (Option.bind_some _ _).symm.trans H; rw [hy152]; with_reducible exact H2_) | (have H2_ := (Option.bind_some _ _).symm.trans H; with_reducible exact H2_) | with_reducible exact H | (rw [hy152]; exact H) | exact H
          have Ny152 := Aside0.mk hy152
          clear hy152
          have H' := Aside0.mk H
          clear H
          obtain ⟨Ao6, co6, eo6⟩ := Kd.R_slice HO_0.out
          subst eo6
          have p5 : 0 ≤ (x5_1 : Int) := of_decide_eq_true (by first | (with_reducible assumption) | assumption)
          have q5 : (x5_1 : Int) < ((x0_1.length : Int) : Int) := of_decide_eq_true (by first | (with_reducible assumption) | assumption)
          obtain ⟨go5, co5, eo5, gb5, gl5, cl5, HG5⟩ := Kd.R_form HO_0.out (by omega)
          (first | cases eo5 | (injection eo5 with ea_ en_ ec_; (first | subst ea_ | (injection ea_ with ea_; subst ea_)); subst ec_; clear en_))
          have GB5 := Aside0.mk gb5
          have GG5 := Aside0.mk HG5
          clear gb5 gl5 HG5
          have HMgo5 := Aside0.mk (show (P0_ go5 ∨ w.heap.size ≤ go5) from (HO_0.out.1 _ rfl))
          obtain ⟨hx5_0, hf5_0⟩ := Kd.R_celln 0 HO_0.out (x5_1 : Int) p5 q5
          replace p5 := eq_true p5
          replace q5 := eq_true q5
          have HP7 := Kd.R_putg HO_0.out (x5_1 : Int) x1_1
          go_wp2_with (first | ((with_reducible refine gate_store (t := 3) (p := 15) rfl ?_); refine store_event (t := 3) (p := 15) (v := ?vo_w8) (w1 := (wr.setCell ⟨go5, (x5_1 : Int).toNat, none⟩ (.int .i64 x1_1))) ?hg ?ho ?hn ?hr ?_; (case ho => rfl); (case hg => rfl); (case hn => rfl); (case hr => first | (go_simp; done) | (go_simp; rfl)); intro w8 hw; have hg : wr.grownBy w8 (some go5) := (by rw [hw]; exact HP7.2); have hp_ : Kd.R (Kd.int .i64) 3 w8 w0.heap.size (fun k_ => (P0_ k_ ∨ w.heap.size ≤ k_)) (.slice (some ⟨go5, 0, none⟩) x0_1.length co6) y152 := (by rw [hw, Ny152.out]; exact HP7.1); clear HP7; have n0_ := Aside0.mk (hp_); have n1_ := Aside0.mk ((by rw [hw]; exact below_set (HB.out) GB5.out : Below w0.heap.size w0 w8)); have n2_ := Aside0.mk (Kept.of_grown (S := (fun k_ => P0_ k_)) hg (by repeat (first | (with_reducible first | exact HK.out | apply Kept.alloc | apply Kept.drewN | apply Kept.drew) | exact HK.out)) (fun k_ e_ => (HO_0.out.1 k_ e_))); clear HO_0; clear HB; clear HK; have HO_0 := n0_; have HB := n1_; have HK := n2_; clear n0_ n1_ n2_; clear hg hw hp_))
          go_roundg k1
          case measure => have := HK1.out; omega
          case rel => exact ⟨(y152), (wrap64 (x1_1 + 1)), (wrap64 (x5_1 + 1)), (by first | rfl | (simp; done) | (simp [*]; done)), (by first | rfl | (simp; done) | (simp [*]; done)), H', ⟨by have := HK1.out; omega⟩, ⟨by (with_reducible repeat (first | apply Kd.R_alloc | apply Kd.R_drewN | apply Kd.R_drew)); exact HO_0.out⟩, ⟨by repeat (first | (with_reducible first | exact HK.out | apply Kept.alloc | apply Kept.drewN | apply Kept.drew) | exact HK.out)⟩, ⟨by repeat (first | (with_reducible first | exact HB.out | apply below_alloc | apply pw_below_drewN | apply below_drew1) | exact HB.out)⟩⟩
        · rw [if_neg c4] at H
          exact absurd H (by simp)
      · rw [if_neg c3] at H
        have c3b0 : decide (x5_1 < (x0_1.length : Int)) = false := decide_eq_false c3
        clear c3
        simp only [Option.some.injEq, Prod.mk.injEq] at H
        obtain ⟨rfl, rfl⟩ := H
        obtain ⟨Ao9, co9, eo9⟩ := Kd.R_slice HO_0.out
        subst eo9
        go_wp2
        go_ret
        exact ⟨by first | rfl | (simp [errW_none, errW_some] <;> rfl) | (simp [*, errW_none, errW_some] <;> rfl), by (with_reducible repeat (first | apply Kd.R_alloc | apply Kd.R_drewN | apply Kd.R_drew)); exact HO_0.out, by repeat (first | (with_reducible first | exact HB.out | apply below_alloc | apply pw_below_drewN | apply below_drew1) | exact HB.out), by repeat (first | (with_reducible first | exact HK.out | apply Kept.alloc | apply Kept.drewN | apply Kept.drew) | exact HK.out)⟩

noncomputable def laws_markIntS.L0 (x0 : List Int) (x1 : Int) (x5 : Int) : Option (Int × List Int) := lim fun k => laws_markIntS.l0 k x0 x1 x5
theorem laws_markIntS.L0_lim (x0 : List Int) (x1 : Int) (x5 : Int) : Lim (fun k => laws_markIntS.l0 k x0 x1 x5) (laws_markIntS.L0 x0 x1 x5) := Lim.of fun k => (laws_markIntS.mono_l k) x0 x1 x5
noncomputable def laws_markIntS.F (l0 : List Int) (a1 : Int) : Option (Int × List Int) := lim fun k => laws_markIntS.f k l0 a1
theorem laws_markIntS.F_lim (l0 : List Int) (a1 : Int) : Lim (fun k => laws_markIntS.f k l0 a1) (laws_markIntS.F l0 a1) := Lim.of fun k => laws_markIntS.mono l0 a1 k
theorem laws_markIntS.L0_eq (x0 : List Int) (x1 : Int) (x5 : Int) : laws_markIntS.L0 x0 x1 x5 = (if x5 < (x0.length : Int) then (if 0 ≤ x5 then (laws_markIntS.L0 (x0.set (x5 : Int).toNat x1) (wrap64 (x1 + 1)) (wrap64 (x5 + 1))) else (none)) else (some (x1, x0))) :=
  Lim.step (f := fun k => (if x5 < (x0.length : Int) then (if 0 ≤ x5 then (laws_markIntS.l0 k (x0.set (x5 : Int).toNat x1) (wrap64 (x1 + 1)) (wrap64 (x5 + 1))) else (none)) else (some (x1, x0)))) (laws_markIntS.L0_lim x0 x1 x5) (fun k => by first | rfl | rw [laws_markIntS.l0]) (by
    repeat' first
    | (with_reducible exact Lim.const _)
    | (with_reducible exact laws_markIntS.L0_lim _ _ _)
    | (with_reducible refine Lim.ite ?_ ?_)
    | (with_reducible refine Lim.bind ?_ (fun _ => ?_)))
theorem laws_markIntS.F_eq (l0 : List Int) (a1 : Int) : laws_markIntS.F l0 a1 = (laws_markIntS.L0 l0 a1 0) :=
  Lim.unique (laws_markIntS.F_lim l0 a1) (by
    unfold laws_markIntS.f
    repeat' first
    | (with_reducible exact Lim.const _)
    | (with_reducible exact laws_markIntS.L0_lim _ _ _)
    | (with_reducible refine Lim.ite ?_ ?_)
    | (with_reducible refine Lim.bind ?_ (fun _ => ?_)))

end Go.Proofs.Ytmphbmpnenekgaa.Fn
namespace Go.Proofs.Ytmphbmpnenekgaa.Fn
open Go.RowKit Go.Proofs.YtmphbmpnenekgaaW.PrintWords Go.Proofs.YtmphbmpnenekgaaW.PrintLast Go.Proofs.YtmphbmpnenekgaaW.PrintMore
attribute [local go_sem] max2_int min2_int max_two min_two max_three min_three max_four min_four   -- for this text's walks alone
set_option linter.unusedVariables false
set_option linter.unusedSimpArgs false

/-! ### laws_heldIntS: function 22 -/
def laws_heldIntS.l0 : Nat → List Int → Int → Int → Option (Int)
  | 0, _, _, _ => none
  | k + 1, x0, x1, x5 => if x5 < (x0.length : Int) then (if 0 ≤ x5 then (if (rd x0 x5) = x1 then (laws_heldIntS.l0 k x0 (wrap64 (x1 + 1)) (wrap64 (x5 + 1))) else (some (-1))) else (none)) else (some x1)
def laws_heldIntS.f (k : Nat) (l0 : List Int) (a1 : Int) : Option (Int) := laws_heldIntS.l0 k l0 a1 0
theorem laws_heldIntS.mono_l : ∀ k, (∀ y0 y1 y2, LeO (laws_heldIntS.l0 k y0 y1 y2) (laws_heldIntS.l0 (k + 1) y0 y1 y2))
  | 0 => fun _ _ _ r h => by simp [laws_heldIntS.l0] at h
  | k + 1 => by
    have ih0 := laws_heldIntS.mono_l k
    · intro y0 y1 y2
      unfold laws_heldIntS.l0
      repeat' first
      | (with_reducible exact ih0 _ _ _)
      | (with_reducible exact LeO.refl _)
      | (with_reducible exact LeO.none _)
      | (with_reducible refine LeO.ite ?_ ?_)
      | (with_reducible refine LeO.bind ?_ (fun _ => ?_))
      | exact ih0 _ _ _
      | exact LeO.none _
      | refine LeO.ite ?_ ?_
      | refine LeO.bind ?_ (fun _ => ?_)
theorem laws_heldIntS.mono : ∀ a0 a1 k, LeO (laws_heldIntS.f k a0 a1) (laws_heldIntS.f (k + 1) a0 a1) := by
  intro a0 a1 k
  have ih0 := laws_heldIntS.mono_l k
  unfold laws_heldIntS.f
  repeat' first
      | (with_reducible exact ih0 _ _ _)
      | (with_reducible exact LeO.refl _)
      | (with_reducible exact LeO.none _)
      | (with_reducible refine LeO.ite ?_ ?_)
      | (with_reducible refine LeO.bind ?_ (fun _ => ?_))
      | exact ih0 _ _ _
      | exact LeO.none _
      | refine LeO.ite ?_ ?_
      | refine LeO.bind ?_ (fun _ => ?_)
set_option maxHeartbeats 8000000 in
set_option maxRecDepth 100000 in
theorem laws_heldIntS.calls (k : Nat) (A0 : Option Addr) (c0 : Nat) (l0 : List Int) (a1 : Int) (r : Int) (w : World) (hr0 : Kd.C (Kd.int .i64) w A0 l0.length l0) (hc0 : l0.length ≤ c0) (h : laws_heldIntS.f k l0 a1 = some r) :
    Calls Try.prog 22 #[.slice A0 l0.length c0, .int .i64 a1] w fun e w' => e = .returned (.int .i64 r) ∧ Drawn0 w w' := by
  have HR0 := Aside0.mk hr0
  have HC0 := Aside0.mk hc0
  clear hr0 hc0
  have H : (laws_heldIntS.l0 k l0 a1 0) = some r := h
  clear h
  have H' := Aside0.mk H
  clear H
  go_enter Try.func22, Try.ntmps22
  go_wp2
  go_loopg [1, 5] k (fun kq v1 v5 w' => ∃ (x1_1 : Int) (x5_1 : Int), v1 = .int .i64 x1_1 ∧ v5 = .int .i64 x5_1 ∧ Aside0 (laws_heldIntS.l0 kq l0 x1_1 x5_1 = some r) ∧ Aside0 (kq ≤ k) ∧ Drawn0 w w')
  case atStart => exact ⟨(a1), (0), (by first | rfl | (simp; done) | (simp [*]; done)), (by first | rfl | (simp; done) | (simp [*]; done)), H', ⟨Nat.le_refl _⟩, by repeat (first | exact Drawn0.refl _ | apply Drawn0.step)⟩
  case round =>
    clear H'
    try clear c2
    try clear p2
    obtain ⟨x1_1, x5_1, rfl, rfl, HA, HK1, ⟨m1, rfl⟩⟩ := hrel
    cases gk with
    | zero => exact absurd HA.out (by simp [laws_heldIntS.l0])
    | succ k1 =>
      have H := HA.out
      clear HA
      simp only [laws_heldIntS.l0] at H
      by_cases c3 : x5_1 < (l0.length : Int)
      · rw [if_pos c3] at H
        have c3b0 : decide (x5_1 < (l0.length : Int)) = true := decide_eq_true c3
        clear c3
        by_cases c4 : 0 ≤ x5_1
        · rw [if_pos c4] at H
          have c4b0 : decide (0 ≤ x5_1) = true := decide_eq_true c4
          clear c4
          by_cases c5 : (rd l0 x5_1) = x1_1
          · rw [if_pos c5] at H
            have c5b0 : ((rd l0 x5_1) == x1_1) = true := beq_iff_eq.mpr c5
            have c5b1 : ((rd l0 x5_1) != x1_1) = false := bne_eq_false_iff_eq.mpr c5
            clear c5
            have H' := Aside0.mk H
            clear H
            have p153 : 0 ≤ (x5_1 : Int) := of_decide_eq_true (by first | (with_reducible assumption) | assumption)
            have q153 : x5_1 < (l0.length : Int) := of_decide_eq_true (by first | (with_reducible assumption) | assumption)
            obtain ⟨ad153, e153, hx153_0⟩ := Kd.at_int HR0.out x5_1 p153 q153
            cases e153
            replace p153 := eq_true p153
            replace q153 := eq_true q153
            go_wp2
            go_roundg k1
            case measure => have := HK1.out; omega
            case rel => exact ⟨(wrap64 (x1_1 + 1)), (wrap64 (x5_1 + 1)), (by first | rfl | (simp; done) | (simp [*]; done)), (by first | rfl | (simp; done) | (simp [*]; done)), H', ⟨by have := HK1.out; omega⟩, by repeat (first | exact Drawn0.refl _ | apply Drawn0.step)⟩
          · rw [if_neg c5] at H
            have c5b0 : ((rd l0 x5_1) == x1_1) = false := beq_eq_false_iff_ne.mpr c5
            have c5b1 : ((rd l0 x5_1) != x1_1) = true := bne_iff_ne.mpr c5
            obtain rfl := Option.some.inj H
            have p153 : 0 ≤ (x5_1 : Int) := of_decide_eq_true (by first | (with_reducible assumption) | assumption)
            have q153 : x5_1 < (l0.length : Int) := of_decide_eq_true (by first | (with_reducible assumption) | assumption)
            obtain ⟨ad153, e153, hx153_0⟩ := Kd.at_int HR0.out x5_1 p153 q153
            cases e153
            replace p153 := eq_true p153
            replace q153 := eq_true q153
            go_wp2
            go_ret
            exact ⟨by first | rfl | (simp; done) | (simp [*]; done), by repeat (first | exact Drawn0.refl _ | apply Drawn0.step)⟩
        · rw [if_neg c4] at H
          exact absurd H (by simp)
      · rw [if_neg c3] at H
        have c3b0 : decide (x5_1 < (l0.length : Int)) = false := decide_eq_false c3
        clear c3
        obtain rfl := Option.some.inj H
        go_wp2
        go_ret
        exact ⟨by first | rfl | (simp; done) | (simp [*]; done), by repeat (first | exact Drawn0.refl _ | apply Drawn0.step)⟩

noncomputable def laws_heldIntS.L0 (x0 : List Int) (x1 : Int) (x5 : Int) : Option (Int) := lim fun k => laws_heldIntS.l0 k x0 x1 x5
theorem laws_heldIntS.L0_lim (x0 : List Int) (x1 : Int) (x5 : Int) : Lim (fun k => laws_heldIntS.l0 k x0 x1 x5) (laws_heldIntS.L0 x0 x1 x5) := Lim.of fun k => (laws_heldIntS.mono_l k) x0 x1 x5
noncomputable def laws_heldIntS.F (l0 : List Int) (a1 : Int) : Option (Int) := lim fun k => laws_heldIntS.f k l0 a1
theorem laws_heldIntS.F_lim (l0 : List Int) (a1 : Int) : Lim (fun k => laws_heldIntS.f k l0 a1) (laws_heldIntS.F l0 a1) := Lim.of fun k => laws_heldIntS.mono l0 a1 k
theorem laws_heldIntS.L0_eq (x0 : List Int) (x1 : Int) (x5 : Int) : laws_heldIntS.L0 x0 x1 x5 = (if x5 < (x0.length : Int) then (if 0 ≤ x5 then (if (rd x0 x5) = x1 then (laws_heldIntS.L0 x0 (wrap64 (x1 + 1)) (wrap64 (x5 + 1))) else (some (-1))) else (none)) else (some x1)) :=
  Lim.step (f := fun k => (if x5 < (x0.length : Int) then (if 0 ≤ x5 then (if (rd x0 x5) = x1 then (laws_heldIntS.l0 k x0 (wrap64 (x1 + 1)) (wrap64 (x5 + 1))) else (some (-1))) else (none)) else (some x1))) (laws_heldIntS.L0_lim x0 x1 x5) (fun k => by first | rfl | rw [laws_heldIntS.l0]) (by
    repeat' first
    | (with_reducible exact Lim.const _)
    | (with_reducible exact laws_heldIntS.L0_lim _ _ _)
    | (with_reducible refine Lim.ite ?_ ?_)
    | (with_reducible refine Lim.bind ?_ (fun _ => ?_)))
theorem laws_heldIntS.F_eq (l0 : List Int) (a1 : Int) : laws_heldIntS.F l0 a1 = (laws_heldIntS.L0 l0 a1 0) :=
  Lim.unique (laws_heldIntS.F_lim l0 a1) (by
    unfold laws_heldIntS.f
    repeat' first
    | (with_reducible exact Lim.const _)
    | (with_reducible exact laws_heldIntS.L0_lim _ _ _)
    | (with_reducible refine Lim.ite ?_ ?_)
    | (with_reducible refine Lim.bind ?_ (fun _ => ?_)))

end Go.Proofs.Ytmphbmpnenekgaa.Fn
namespace Go.Proofs.Ytmphbmpnenekgaa.Fn
open Go.RowKit Go.Proofs.YtmphbmpnenekgaaW.PrintWords Go.Proofs.YtmphbmpnenekgaaW.PrintLast Go.Proofs.YtmphbmpnenekgaaW.PrintMore
attribute [local go_sem] max2_int min2_int max_two min_two max_three min_three max_four min_four   -- for this text's walks alone
set_option linter.unusedVariables false
set_option linter.unusedSimpArgs false

/-! ### spec_l1Own: function 50 -/
def spec_l1Own.f (l0 : List Int) : Option (List Int) := (some (([] : List Int) : List Int)).bind fun y113 => (if y113.length + l0.length < 17592186044416 then (some (y113 ++ l0)) else (none))
set_option maxHeartbeats 8000000 in
set_option maxRecDepth 100000 in
theorem spec_l1Own.calls (A0 : Option Addr) (c0 : Nat) (l0 : List Int) (r : List Int) (w : World) (hr0 : Kd.C (Kd.int .i64) w A0 l0.length l0) (hc0 : l0.length ≤ c0) (h : spec_l1Own.f l0 = some r) :
    Calls Try.prog 50 #[.slice A0 l0.length c0] w fun e w' => ∃ v0_ : Value, e = .returned (v0_) ∧ Kd.R (Kd.int .i64) 3 w' w.heap.size (fun _ => True) v0_ r ∧ Below w.heap.size w w' := by
  have HR0 := Aside0.mk hr0
  have HC0 := Aside0.mk hc0
  clear hr0 hc0
  have HB := Aside0.mk (Below.refl w.heap.size w)
  have H : ((some (([] : List Int) : List Int)).bind fun y113 => (if y113.length + l0.length < 17592186044416 then (some (y113 ++ l0)) else (none))) = some r := h
  clear h
  obtain ⟨y113, hy113⟩ : ∃ y_ : List Int, y_ = (([] : List Int)) := ⟨_, rfl⟩
  replace H : (if y113.length + l0.length < 17592186044416 then (some (y113 ++ l0)) else (none)) = some r := by first | (rw [hy113]; with_reducible exact H) | (have H2_ := (Option.bind_some _ _).symm.trans H; rw [hy113]; with_reducible exact H2_) | (have H2_ := (Option.bind_some _ _).symm.trans H; with_reducible exact H2_) | with_reducible exact H | (rw [hy113]; exact H) | exact H
  have Ny113 := Aside0.mk hy113
  clear hy113
  by_cases c2 : y113.length + l0.length < 17592186044416
  · rw [if_pos c2] at H
    have LMc2 := Aside0.mk c2
    clear c2
    obtain ⟨y116, hy116⟩ : ∃ y_ : List Int, y_ = (y113 ++ l0) := ⟨_, rfl⟩
    replace H : (some y116) = some r := by first | (rw [hy116]; with_reducible exact H) | (have H2_ := (Option.bind_some _ _).symm.trans H; rw [hy116]; with_reducible exact H2_) | (have H2_ := (Option.bind_some _ _).symm.trans H; with_reducible exact H2_) | with_reducible exact H | (rw [hy116]; exact H) | exact H
    have Ny116 := Aside0.mk hy116
    clear hy116
    obtain rfl := Option.some.inj H
    go_enter Try.func50, Try.ntmps50
    go_wp2_with (first | ((with_reducible refine gate_dst (N := 3) rfl ?_); refine Kd.R_lit (Kd.int .i64) _ 3 ?hg (N := 3) ?hd (xs := ([] : List Int)) (inner := []) (ok := fun _ => True) (okp := fun _ => True) ?hr ?hp (fun _ hk => hk) trivial (Below.refl _ _) (Nat.le_refl _) (by simp) ?_; (case hd => rfl); (case hg => rfl); (case hr => first | (go_simp; done) | (go_simp; rfl)); (case hp => exact (Reps.none _ _)); intro v114 w3 ho4 hb hg_ hnew_; clear hg_ hnew_; (first | rw [← Ny113.out] at ho4 | (simp only [Int.reduceToNat] at ho4; rw [← Ny113.out] at ho4)); have n0_ := Aside0.mk (Kd.R_lower ho4 (below_size (by repeat (first | (with_reducible first | exact HB.out | apply below_alloc | apply pw_below_drewN | apply below_drew1) | exact HB.out)))); have n1_ := Aside0.mk (below_step (by repeat (first | (with_reducible first | exact HB.out | apply below_alloc | apply pw_below_drewN | apply below_drew1) | exact HB.out)) hb); clear HB; have HO115 := n0_; have HB := n1_; clear n0_ n1_; clear hb ho4) | ((with_reducible refine gate_builtin (b := .append) (xs := #[.tmp 3, .tmp 4]) rfl ?_); at_builtin; refine Kd.R_append_rows (Kd.int .i64) (w0 := w) w.heap.size rfl (.tmp 3) (.tmp 4) 25 3 (.int .i64 0) 8 rfl Try.underlying25 info3 rfl (by decide) (by omega) v114 y113 l0 _ _ _ (fun _ => True) (fun _ => False) rfl rfl ?aO ?aR (fun _ _ h => h) (fun _ h => h.elim) ?aF ?aB ?aS ?aL ?_; (case aR => repeat (first | exact (Kd.C_below HR0.out HB.out) | (with_reducible refine Kd.C_alloc ?_ _) | (with_reducible refine Kd.C_drewN ?_ _) | (with_reducible refine Kd.C_drew ?_))); (case aB => exact (by repeat (first | (with_reducible first | exact HB.out | apply below_alloc | apply pw_below_drewN | apply below_drew1) | exact HB.out))); (case aF => exact (fun _ _ => trivial)); (case aO => exact (by (with_reducible repeat (first | apply Kd.R_alloc | apply Kd.R_drewN | apply Kd.R_drew)); exact HO115.out)); (case aS => exact (below_size (by repeat (first | (with_reducible first | exact HB.out | apply below_alloc | apply pw_below_drewN | apply below_drew1) | exact HB.out)))); (case aL => have := LMc2.out; omega); intro v117 w5 ho hb hg hat; rw [← Ny116.out] at ho; have n0_ := Aside0.mk (hb); have n1_ := Aside0.mk (ho); clear HB; clear HO115; have HB := n0_; have HO118 := n1_; clear n0_ n1_; clear ho hb hg hat))
    go_ret
    exact ⟨_, by first | rfl | (simp [errW_none, errW_some] <;> rfl) | (simp [*, errW_none, errW_some] <;> rfl), by (with_reducible repeat (first | apply Kd.R_alloc | apply Kd.R_drewN | apply Kd.R_drew)); exact HO118.out, by repeat (first | (with_reducible first | exact HB.out | apply below_alloc | apply pw_below_drewN | apply below_drew1) | exact HB.out)⟩
  · rw [if_neg c2] at H
    exact absurd H (by simp)


end Go.Proofs.Ytmphbmpnenekgaa.Fn
namespace Go.Proofs.Ytmphbmpnenekgaa.Fn
open Go.RowKit Go.Proofs.YtmphbmpnenekgaaW.PrintWords Go.Proofs.YtmphbmpnenekgaaW.PrintLast Go.Proofs.YtmphbmpnenekgaaW.PrintMore
attribute [local go_sem] max2_int min2_int max_two min_two max_three min_three max_four min_four   -- for this text's walks alone
set_option linter.unusedVariables false
set_option linter.unusedSimpArgs false

/-! ### spec_l1In: function 61 -/
def spec_l1In.f (a0 : Int) (a1 : Int) (a2 : Int) : Option (Bool) := if a0 ≥ a1 then (some (decide (a0 ≤ a2))) else (some false)
set_option maxHeartbeats 8000000 in
set_option maxRecDepth 100000 in
theorem spec_l1In.calls (a0 : Int) (a1 : Int) (a2 : Int) (r : Bool) (w : World) (h : spec_l1In.f a0 a1 a2 = some r) :
    Calls Try.prog 61 #[.int .i64 a0, .int .i64 a1, .int .i64 a2] w fun e w' => e = .returned (.bool r) ∧ Drawn0 w w' := by
  have H : (if a0 ≥ a1 then (some (decide (a0 ≤ a2))) else (some false)) = some r := h
  clear h
  by_cases c4 : a0 ≥ a1
  · rw [if_pos c4] at H
    have c4b0 : decide (a1 ≤ a0) = true := decide_eq_true c4
    clear c4
    obtain rfl := Option.some.inj H
    go_enter Try.func61, Try.ntmps61
    go_wp2
    go_ret
    exact ⟨by first | rfl | (simp; done) | (simp [*]; done), by repeat (first | exact Drawn0.refl _ | apply Drawn0.step)⟩
  · rw [if_neg c4] at H
    have c4b0 : decide (a1 ≤ a0) = false := decide_eq_false c4
    clear c4
    obtain rfl := Option.some.inj H
    go_enter Try.func61, Try.ntmps61
    go_wp2
    go_ret
    exact ⟨by first | rfl | (simp; done) | (simp [*]; done), by repeat (first | exact Drawn0.refl _ | apply Drawn0.step)⟩


end Go.Proofs.Ytmphbmpnenekgaa.Fn
namespace Go.Proofs.Ytmphbmpnenekgaa.Fn
open Go.RowKit Go.Proofs.YtmphbmpnenekgaaW.PrintWords Go.Proofs.YtmphbmpnenekgaaW.PrintLast Go.Proofs.YtmphbmpnenekgaaW.PrintMore
attribute [local go_sem] max2_int min2_int max_two min_two max_three min_three max_four min_four   -- for this text's walks alone
set_option linter.unusedVariables false
set_option linter.unusedSimpArgs false

/-! ### spec_l1All: function 76 -/
def spec_l1All.l0 : Nat → Int → Int → List Int → Int → Int → Option (Bool)
  | 0, _, _, _, _, _ => none
  | k + 1, x1, x2, x9, x10, x11 => if x11 < x10 then (if 0 ≤ x11 then (if x11 < (x9.length : Int) then ((spec_l1In.f (rd x9 x11) x1 x2).bind fun t110 => (if t110 = true then (spec_l1All.l0 k x1 x2 x9 x10 (wrap64 (x11 + 1))) else (some false))) else (none)) else (none)) else (some true)
def spec_l1All.f (k : Nat) (l0 : List Int) (a1 : Int) (a2 : Int) : Option (Bool) := spec_l1All.l0 k a1 a2 l0 (l0.length : Int) 0
theorem spec_l1All.mono_l : ∀ k, (∀ y0 y1 y2 y3 y4, LeO (spec_l1All.l0 k y0 y1 y2 y3 y4) (spec_l1All.l0 (k + 1) y0 y1 y2 y3 y4))
  | 0 => fun _ _ _ _ _ r h => by simp [spec_l1All.l0] at h
  | k + 1 => by
    have ih0 := spec_l1All.mono_l k
    · intro y0 y1 y2 y3 y4
      unfold spec_l1All.l0
      repeat' first
      | (with_reducible exact ih0 _ _ _ _ _)
      | (with_reducible exact LeO.refl _)
      | (with_reducible exact LeO.none _)
      | (with_reducible refine LeO.ite ?_ ?_)
      | (with_reducible refine LeO.bind ?_ (fun _ => ?_))
      | exact ih0 _ _ _ _ _
      | exact LeO.none _
      | refine LeO.ite ?_ ?_
      | refine LeO.bind ?_ (fun _ => ?_)
theorem spec_l1All.mono : ∀ a0 a1 a2 k, LeO (spec_l1All.f k a0 a1 a2) (spec_l1All.f (k + 1) a0 a1 a2) := by
  intro a0 a1 a2 k
  have ih0 := spec_l1All.mono_l k
  unfold spec_l1All.f
  repeat' first
      | (with_reducible exact ih0 _ _ _ _ _)
      | (with_reducible exact LeO.refl _)
      | (with_reducible exact LeO.none _)
      | (with_reducible refine LeO.ite ?_ ?_)
      | (with_reducible refine LeO.bind ?_ (fun _ => ?_))
      | exact ih0 _ _ _ _ _
      | exact LeO.none _
      | refine LeO.ite ?_ ?_
      | refine LeO.bind ?_ (fun _ => ?_)
set_option maxHeartbeats 8000000 in
set_option maxRecDepth 100000 in
theorem spec_l1All.calls (k : Nat) (A0 : Option Addr) (c0 : Nat) (l0 : List Int) (a1 : Int) (a2 : Int) (r : Bool) (w : World) (hr0 : Kd.C (Kd.int .i64) w A0 l0.length l0) (hc0 : l0.length ≤ c0) (h : spec_l1All.f k l0 a1 a2 = some r) :
    Calls Try.prog 76 #[.slice A0 l0.length c0, .int .i64 a1, .int .i64 a2] w fun e w' => e = .returned (.bool r) ∧ Drawn0 w w' := by
  have HR0 := Aside0.mk hr0
  have HC0 := Aside0.mk hc0
  clear hr0 hc0
  have H : (spec_l1All.l0 k a1 a2 l0 (l0.length : Int) 0) = some r := h
  clear h
  have H' := Aside0.mk H
  clear H
  go_enter Try.func76, Try.ntmps76
  go_wp2
  go_loopg [11] k (fun kq v11 w' => ∃ (x11_1 : Int), v11 = .int .i64 x11_1 ∧ Aside0 (spec_l1All.l0 kq a1 a2 l0 (l0.length : Int) x11_1 = some r) ∧ Aside0 (kq ≤ k) ∧ Drawn0 w w')
  case atStart => exact ⟨(0), (by first | rfl | (simp; done) | (simp [*]; done)), H', ⟨Nat.le_refl _⟩, by repeat (first | exact Drawn0.refl _ | apply Drawn0.step)⟩
  case round =>
    clear H'
    try clear p2
    obtain ⟨x11_1, rfl, HA, HK1, ⟨m1, rfl⟩⟩ := hrel
    cases gk with
    | zero => exact absurd HA.out (by simp [spec_l1All.l0])
    | succ k1 =>
      have H := HA.out
      clear HA
      simp only [spec_l1All.l0] at H
      by_cases c4 : x11_1 < (l0.length : Int)
      · rw [if_pos c4] at H
        have c4b0 : decide (x11_1 < (l0.length : Int)) = true := decide_eq_true c4
        clear c4
        by_cases c5 : 0 ≤ x11_1
        · rw [if_pos c5] at H
          have c5b0 : decide (0 ≤ x11_1) = true := decide_eq_true c5
          clear c5
          by_cases c6 : x11_1 < (l0.length : Int)
          · rw [if_pos c6] at H
            have c6b0 : decide (x11_1 < (l0.length : Int)) = true := decide_eq_true c6
            clear c6
            replace H := Option.bind_eq_some_iff.mp H
            obtain ⟨t110, A70, H⟩ := H
            replace H : (if t110 = true then (spec_l1All.l0 k1 a1 a2 l0 (l0.length : Int) (wrap64 (x11_1 + 1))) else (some false)) = some r := H
            have A7 := Aside0.mk A70
            clear A70
            by_cases c8 : t110 = true
            · subst c8
              have H1 : (spec_l1All.l0 k1 a1 a2 l0 (l0.length : Int) (wrap64 (x11_1 + 1))) = some r := by rw [if_pos rfl] at H; exact H
              clear H
              have H := H1
              clear H1
              have H' := Aside0.mk H
              clear H
              have p109 : 0 ≤ (x11_1 : Int) := of_decide_eq_true (by first | (with_reducible assumption) | assumption)
              have q109 : x11_1 < (l0.length : Int) := of_decide_eq_true (by first | (with_reducible assumption) | assumption)
              obtain ⟨ad109, e109, hx109_0⟩ := Kd.at_int HR0.out x11_1 p109 q109
              cases e109
              replace p109 := eq_true p109
              replace q109 := eq_true q109
              go_wp2_with (first | ((with_reducible refine gate_callee (f := 61) rfl ?_); refine goesL_ (some 18) rfl rfl Try.func61 (by kernel_rfl) rfl #[.int .i64 (rd l0 x11_1), .int .i64 a1, .int .i64 a2] rfl (by (try simp only [List.map_toArray, List.map_cons, List.map_nil]); first | done | rfl | (simp only [List.length_drop, List.length_take]; rfl)) ?_; (with_reducible refine (spec_l1In.calls (rd l0 x11_1) a1 a2 true _ A7.out).mono ?_); rintro e w' ⟨rfl, ⟨nd, rfl⟩⟩; refine ⟨_, rfl, ?_⟩))
              go_roundg k1
              case measure => have := HK1.out; omega
              case rel => exact ⟨(wrap64 (x11_1 + 1)), (by first | rfl | (simp; done) | (simp [*]; done)), H', ⟨by have := HK1.out; omega⟩, by repeat (first | exact Drawn0.refl _ | apply Drawn0.step)⟩
            · replace c8 := Bool.eq_false_iff.mpr c8
              subst c8
              have H1 : (some false) = some r := by rw [if_neg (show ¬ (false = true) by decide)] at H; exact H
              clear H
              have H := H1
              clear H1
              obtain rfl := Option.some.inj H
              have p109 : 0 ≤ (x11_1 : Int) := of_decide_eq_true (by first | (with_reducible assumption) | assumption)
              have q109 : x11_1 < (l0.length : Int) := of_decide_eq_true (by first | (with_reducible assumption) | assumption)
              obtain ⟨ad109, e109, hx109_0⟩ := Kd.at_int HR0.out x11_1 p109 q109
              cases e109
              replace p109 := eq_true p109
              replace q109 := eq_true q109
              go_wp2_with (first | ((with_reducible refine gate_callee (f := 61) rfl ?_); refine goesL_ (some 18) rfl rfl Try.func61 (by kernel_rfl) rfl #[.int .i64 (rd l0 x11_1), .int .i64 a1, .int .i64 a2] rfl (by (try simp only [List.map_toArray, List.map_cons, List.map_nil]); first | done | rfl | (simp only [List.length_drop, List.length_take]; rfl)) ?_; (with_reducible refine (spec_l1In.calls (rd l0 x11_1) a1 a2 false _ A7.out).mono ?_); rintro e w' ⟨rfl, ⟨nd, rfl⟩⟩; refine ⟨_, rfl, ?_⟩))
              go_ret
              exact ⟨by first | rfl | (simp; done) | (simp [*]; done), by repeat (first | exact Drawn0.refl _ | apply Drawn0.step)⟩
          · rw [if_neg c6] at H
            exact absurd H (by simp)
        · rw [if_neg c5] at H
          exact absurd H (by simp)
      · rw [if_neg c4] at H
        have c4b0 : decide (x11_1 < (l0.length : Int)) = false := decide_eq_false c4
        clear c4
        obtain rfl := Option.some.inj H
        go_wp2
        go_ret
        exact ⟨by first | rfl | (simp; done) | (simp [*]; done), by repeat (first | exact Drawn0.refl _ | apply Drawn0.step)⟩

noncomputable def spec_l1All.L0 (x1 : Int) (x2 : Int) (x9 : List Int) (x10 : Int) (x11 : Int) : Option (Bool) := lim fun k => spec_l1All.l0 k x1 x2 x9 x10 x11
theorem spec_l1All.L0_lim (x1 : Int) (x2 : Int) (x9 : List Int) (x10 : Int) (x11 : Int) : Lim (fun k => spec_l1All.l0 k x1 x2 x9 x10 x11) (spec_l1All.L0 x1 x2 x9 x10 x11) := Lim.of fun k => (spec_l1All.mono_l k) x1 x2 x9 x10 x11
noncomputable def spec_l1All.F (l0 : List Int) (a1 : Int) (a2 : Int) : Option (Bool) := lim fun k => spec_l1All.f k l0 a1 a2
theorem spec_l1All.F_lim (l0 : List Int) (a1 : Int) (a2 : Int) : Lim (fun k => spec_l1All.f k l0 a1 a2) (spec_l1All.F l0 a1 a2) := Lim.of fun k => spec_l1All.mono l0 a1 a2 k
theorem spec_l1All.L0_eq (x1 : Int) (x2 : Int) (x9 : List Int) (x10 : Int) (x11 : Int) : spec_l1All.L0 x1 x2 x9 x10 x11 = (if x11 < x10 then (if 0 ≤ x11 then (if x11 < (x9.length : Int) then ((spec_l1In.f (rd x9 x11) x1 x2).bind fun t110 => (if t110 = true then (spec_l1All.L0 x1 x2 x9 x10 (wrap64 (x11 + 1))) else (some false))) else (none)) else (none)) else (some true)) :=
  Lim.step (f := fun k => (if x11 < x10 then (if 0 ≤ x11 then (if x11 < (x9.length : Int) then ((spec_l1In.f (rd x9 x11) x1 x2).bind fun t110 => (if t110 = true then (spec_l1All.l0 k x1 x2 x9 x10 (wrap64 (x11 + 1))) else (some false))) else (none)) else (none)) else (some true))) (spec_l1All.L0_lim x1 x2 x9 x10 x11) (fun k => by first | rfl | rw [spec_l1All.l0]) (by
    repeat' first
    | (with_reducible exact Lim.const _)
    | (with_reducible exact spec_l1All.L0_lim _ _ _ _ _)
    | (with_reducible refine Lim.ite ?_ ?_)
    | (with_reducible refine Lim.bind ?_ (fun _ => ?_)))
theorem spec_l1All.F_eq (l0 : List Int) (a1 : Int) (a2 : Int) : spec_l1All.F l0 a1 a2 = (spec_l1All.L0 a1 a2 l0 (l0.length : Int) 0) :=
  Lim.unique (spec_l1All.F_lim l0 a1 a2) (by
    unfold spec_l1All.f
    repeat' first
    | (with_reducible exact Lim.const _)
    | (with_reducible exact spec_l1All.L0_lim _ _ _ _ _)
    | (with_reducible refine Lim.ite ?_ ?_)
    | (with_reducible refine Lim.bind ?_ (fun _ => ?_)))

end Go.Proofs.Ytmphbmpnenekgaa.Fn
namespace Go.Proofs.Ytmphbmpnenekgaa.Fn
open Go.RowKit Go.Proofs.YtmphbmpnenekgaaW.PrintWords Go.Proofs.YtmphbmpnenekgaaW.PrintLast Go.Proofs.YtmphbmpnenekgaaW.PrintMore
attribute [local go_sem] max2_int min2_int max_two min_two max_three min_three max_four min_four   -- for this text's walks alone
set_option linter.unusedVariables false
set_option linter.unusedSimpArgs false

/-! ### spec_roGood: function 48 -/
def spec_roGood.f (k : Nat) (l0 : List Int) : Option (Bool) := if (l0.length : Int) ≤ 40 then ((spec_l1All.f k l0 0 20).bind fun t111 => (some t111)) else (some false)
theorem spec_roGood.mono : ∀ a0 k, LeO (spec_roGood.f k a0) (spec_roGood.f (k + 1) a0) := by
  intro a0 k
  unfold spec_roGood.f
  repeat' first
      | (with_reducible exact spec_l1All.mono _ _ _ _)
      | (with_reducible exact LeO.refl _)
      | (with_reducible exact LeO.none _)
      | (with_reducible refine LeO.ite ?_ ?_)
      | (with_reducible refine LeO.bind ?_ (fun _ => ?_))
      | exact spec_l1All.mono _ _ _ _
      | exact LeO.none _
      | refine LeO.ite ?_ ?_
      | refine LeO.bind ?_ (fun _ => ?_)
set_option maxHeartbeats 8000000 in
set_option maxRecDepth 100000 in
theorem spec_roGood.calls (k : Nat) (A0 : Option Addr) (c0 : Nat) (l0 : List Int) (r : Bool) (w : World) (hr0 : Kd.C (Kd.int .i64) w A0 l0.length l0) (hc0 : l0.length ≤ c0) (h : spec_roGood.f k l0 = some r) :
    Calls Try.prog 48 #[.slice A0 l0.length c0] w fun e w' => e = .returned (.bool r) ∧ Drawn0 w w' := by
  have HR0 := Aside0.mk hr0
  have HC0 := Aside0.mk hc0
  clear hr0 hc0
  have H : (if (l0.length : Int) ≤ 40 then ((spec_l1All.f k l0 0 20).bind fun t111 => (some t111)) else (some false)) = some r := h
  clear h
  by_cases c2 : (l0.length : Int) ≤ 40
  · rw [if_pos c2] at H
    have c2b0 : decide ((l0.length : Int) ≤ 40) = true := decide_eq_true c2
    have c2b1 : decide (l0.length ≤ 40) = true := decide_eq_true (by omega)
    clear c2
    replace H := Option.bind_eq_some_iff.mp H
    obtain ⟨t111, A30, H⟩ := H
    replace H : (some t111) = some r := H
    have A3 := Aside0.mk A30
    clear A30
    obtain rfl := Option.some.inj H
    go_enter Try.func48, Try.ntmps48
    go_wp2_with (first | (go_at_call 76; (with_reducible refine (spec_l1All.calls k _ _ l0 0 20 t111 _ ?side1 ?side2 A3.out).mono ?_); (case side1 => repeat (first | exact HR0.out | (with_reducible refine Kd.C_alloc ?_ _) | (with_reducible refine Kd.C_drewN ?_ _) | (with_reducible refine Kd.C_drew ?_))); (case side2 => exact HC0.out); rintro e w' ⟨rfl, ⟨nd, rfl⟩⟩))
    go_ret
    exact ⟨by first | rfl | (simp; done) | (simp [*]; done), by repeat (first | exact Drawn0.refl _ | apply Drawn0.step)⟩
  · rw [if_neg c2] at H
    have c2b0 : decide ((l0.length : Int) ≤ 40) = false := decide_eq_false c2
    have c2b1 : decide (l0.length ≤ 40) = false := decide_eq_false (by omega)
    clear c2
    obtain rfl := Option.some.inj H
    go_enter Try.func48, Try.ntmps48
    go_wp2
    go_ret
    exact ⟨by first | rfl | (simp; done) | (simp [*]; done), by repeat (first | exact Drawn0.refl _ | apply Drawn0.step)⟩

noncomputable def spec_roGood.F (l0 : List Int) : Option (Bool) := lim fun k => spec_roGood.f k l0
theorem spec_roGood.F_lim (l0 : List Int) : Lim (fun k => spec_roGood.f k l0) (spec_roGood.F l0) := Lim.of fun k => spec_roGood.mono l0 k
theorem spec_roGood.F_eq (l0 : List Int) : spec_roGood.F l0 = (if (l0.length : Int) ≤ 40 then ((spec_l1All.F l0 0 20).bind fun t111 => (some t111)) else (some false)) :=
  Lim.unique (spec_roGood.F_lim l0) (by
    unfold spec_roGood.f
    repeat' first
    | (with_reducible exact Lim.const _)
    | (with_reducible exact spec_l1All.F_lim _ _ _)
    | (with_reducible refine Lim.ite ?_ ?_)
    | (with_reducible refine Lim.bind ?_ (fun _ => ?_)))

end Go.Proofs.Ytmphbmpnenekgaa.Fn
namespace Go.Proofs.Ytmphbmpnenekgaa.Fn
open Go.RowKit Go.Proofs.YtmphbmpnenekgaaW.PrintWords Go.Proofs.YtmphbmpnenekgaaW.PrintLast Go.Proofs.YtmphbmpnenekgaaW.PrintMore
attribute [local go_sem] max2_int min2_int max_two min_two max_three min_three max_four min_four   -- for this text's walks alone
set_option linter.unusedVariables false
set_option linter.unusedSimpArgs false

/-! ### spec_roPlaces: function 85 -/
def spec_roPlaces.l0 : Nat → Int → List Int → List Int → Int → Int → Option (List Int)
  | 0, _, _, _, _, _ => none
  | k + 1, x1, x5, x8, x9, x10 => if x10 < x9 then (if 0 ≤ x10 then (if x10 < (x8.length : Int) then (if (rd x8 x10) = x1 then (if x5.length < 17592186044416 then (spec_roPlaces.l0 k x1 (x5 ++ [x10]) x8 x9 (wrap64 (x10 + 1))) else (none)) else (spec_roPlaces.l0 k x1 x5 x8 x9 (wrap64 (x10 + 1)))) else (none)) else (none)) else (some x5)
def spec_roPlaces.f (k : Nat) (l0 : List Int) (a1 : Int) : Option (List Int) := spec_roPlaces.l0 k a1 ([] : List Int) l0 (l0.length : Int) 0
theorem spec_roPlaces.mono_l : ∀ k, (∀ y0 y1 y2 y3 y4, LeO (spec_roPlaces.l0 k y0 y1 y2 y3 y4) (spec_roPlaces.l0 (k + 1) y0 y1 y2 y3 y4))
  | 0 => fun _ _ _ _ _ r h => by simp [spec_roPlaces.l0] at h
  | k + 1 => by
    have ih0 := spec_roPlaces.mono_l k
    · intro y0 y1 y2 y3 y4
      unfold spec_roPlaces.l0
      repeat' first
      | (with_reducible exact ih0 _ _ _ _ _)
      | (with_reducible exact LeO.refl _)
      | (with_reducible exact LeO.none _)
      | (with_reducible refine LeO.ite ?_ ?_)
      | (with_reducible refine LeO.bind ?_ (fun _ => ?_))
      | exact ih0 _ _ _ _ _
      | exact LeO.none _
      | refine LeO.ite ?_ ?_
      | refine LeO.bind ?_ (fun _ => ?_)
theorem spec_roPlaces.mono : ∀ a0 a1 k, LeO (spec_roPlaces.f k a0 a1) (spec_roPlaces.f (k + 1) a0 a1) := by
  intro a0 a1 k
  have ih0 := spec_roPlaces.mono_l k
  unfold spec_roPlaces.f
  repeat' first
      | (with_reducible exact ih0 _ _ _ _ _)
      | (with_reducible exact LeO.refl _)
      | (with_reducible exact LeO.none _)
      | (with_reducible refine LeO.ite ?_ ?_)
      | (with_reducible refine LeO.bind ?_ (fun _ => ?_))
      | exact ih0 _ _ _ _ _
      | exact LeO.none _
      | refine LeO.ite ?_ ?_
      | refine LeO.bind ?_ (fun _ => ?_)
set_option maxHeartbeats 8000000 in
set_option maxRecDepth 100000 in
theorem spec_roPlaces.calls (k : Nat) (A0 : Option Addr) (c0 : Nat) (l0 : List Int) (a1 : Int) (r : List Int) (w : World) (hr0 : Kd.C (Kd.int .i64) w A0 l0.length l0) (hc0 : l0.length ≤ c0) (h : spec_roPlaces.f k l0 a1 = some r) :
    Calls Try.prog 85 #[.slice A0 l0.length c0, .int .i64 a1] w fun e w' => ∃ v0_ : Value, e = .returned (v0_) ∧ Kd.R (Kd.int .i64) 3 w' w.heap.size (fun _ => True) v0_ r ∧ Below w.heap.size w w' := by
  have HR0 := Aside0.mk hr0
  have HC0 := Aside0.mk hc0
  clear hr0 hc0
  have HB := Aside0.mk (Below.refl w.heap.size w)
  have H : (spec_roPlaces.l0 k a1 ([] : List Int) l0 (l0.length : Int) 0) = some r := h
  clear h
  have H' := Aside0.mk H
  clear H
  go_enter Try.func85, Try.ntmps85
  go_wp2
  go_loopg [5, 10] k (fun kq v5 v10 w' => ∃ (x5_1 : List Int) (x10_1 : Int), v10 = .int .i64 x10_1 ∧ Aside0 (spec_roPlaces.l0 kq a1 x5_1 l0 (l0.length : Int) x10_1 = some r) ∧ Aside0 (kq ≤ k) ∧ Aside0 (Kd.R (Kd.int .i64) 3 w' w.heap.size (fun _ => True) v5 x5_1) ∧ Aside0 (Below w.heap.size w w'))
  case atStart => exact ⟨(([] : List Int)), (0), (by first | rfl | (simp; done) | (simp [*]; done)), H', ⟨Nat.le_refl _⟩, ⟨by first | exact Kd.R_nil _ _ _ _ _ | exact Kd.N_nil _ _ _ _ _ | exact Kd.V_nil _ _ _ _ _ | exact Kd.Q_nil _ _ _ _ _ | exact Kd.S_nil _ _ _ _ _⟩, ⟨by repeat (first | (with_reducible first | exact HB.out | apply below_alloc | apply pw_below_drewN | apply below_drew1) | exact HB.out)⟩⟩
  case round =>
    clear H'
    try clear p2
    obtain ⟨x5_1, x10_1, rfl, HA, HK1, HO_5, HB⟩ := hrel
    cases gk with
    | zero => exact absurd HA.out (by simp [spec_roPlaces.l0])
    | succ k1 =>
      have H := HA.out
      clear HA
      simp only [spec_roPlaces.l0] at H
      by_cases c3 : x10_1 < (l0.length : Int)
      · rw [if_pos c3] at H
        have c3b0 : decide (x10_1 < (l0.length : Int)) = true := decide_eq_true c3
        clear c3
        by_cases c4 : 0 ≤ x10_1
        · rw [if_pos c4] at H
          have c4b0 : decide (0 ≤ x10_1) = true := decide_eq_true c4
          clear c4
          by_cases c5 : x10_1 < (l0.length : Int)
          · rw [if_pos c5] at H
            have c5b0 : decide (x10_1 < (l0.length : Int)) = true := decide_eq_true c5
            clear c5
            by_cases c6 : (rd l0 x10_1) = a1
            · rw [if_pos c6] at H
              have c6b0 : ((rd l0 x10_1) == a1) = true := beq_iff_eq.mpr c6
              have c6b1 : ((rd l0 x10_1) != a1) = false := bne_eq_false_iff_eq.mpr c6
              clear c6
              by_cases c7 : x5_1.length < 17592186044416
              · rw [if_pos c7] at H
                have LMc7 := Aside0.mk c7
                clear c7
                obtain ⟨y271, hy271⟩ : ∃ y_ : List Int, y_ = (x5_1 ++ [x10_1]) := ⟨_, rfl⟩
                replace H : (spec_roPlaces.l0 k1 a1 y271 l0 (l0.length : Int) (wrap64 (x10_1 + 1))) = some r := by first | (rw [hy271]; with_reducible exact H) | (have H2_ := (Option.bind_some _ _).symm.trans H; rw [hy271]; with_reducible exact H2_) | (have H2_ := (Option.bind_some _ _).symm.trans H; with_reducible exact H2_) | with_reducible exact H | (rw [hy271]; exact H) | exact H
                have Ny271 := Aside0.mk hy271
                clear hy271
                have H' := Aside0.mk H
                clear H
                have p270 : 0 ≤ (x10_1 : Int) := of_decide_eq_true (by first | (with_reducible assumption) | assumption)
                have q270 : x10_1 < (l0.length : Int) := of_decide_eq_true (by first | (with_reducible assumption) | assumption)
                obtain ⟨ad270, e270, hx270_0⟩ := Kd.at_int HR0.out x10_1 p270 q270
                cases e270
                replace hx270_0 := (HB.out.cell (World.block_lt_of_cell? w _ hx270_0)).trans hx270_0
                replace p270 := eq_true p270
                replace q270 := eq_true q270
                go_wp2_with (first | ((with_reducible refine gate_builtin (b := .append) (xs := #[.tmp 18, .tmp 20]) rfl ?_); at_builtin; refine Kd.R_append (Kd.int .i64) (w0 := w) w.heap.size rfl (.tmp 18) (.tmp 20) 25 3 (.int .i64 0) 8 rfl Try.underlying25 info3 rfl (by decide) (by omega) u5 x5_1 x10_1 [.int .i64 x10_1] (fun _ => True) (fun _ => False) rfl rfl ?aP (fun _ hk => hk.elim) ?aF ?aO ?aB ?aS ?aL ?_; (case aP => exact rfl); (case aB => exact (by repeat (first | (with_reducible first | exact HB.out | apply below_alloc | apply pw_below_drewN | apply below_drew1) | exact HB.out))); (case aF => exact (fun _ _ => trivial)); (case aO => exact (by (with_reducible repeat (first | apply Kd.R_alloc | apply Kd.R_drewN | apply Kd.R_drew)); exact HO_5.out)); (case aS => exact (below_size (by repeat (first | (with_reducible first | exact HB.out | apply below_alloc | apply pw_below_drewN | apply below_drew1) | exact HB.out)))); (case aL => have := LMc7.out; omega); intro v272 w8 ho hb hg hat; rw [← Ny271.out] at ho; have n0_ := Aside0.mk (hb); have n1_ := Aside0.mk (ho); clear HB; clear HO_5; have HB := n0_; have HO273 := n1_; clear n0_ n1_; clear ho hb hg hat))
                go_roundg k1
                case measure => have := HK1.out; omega
                case rel => exact ⟨(y271), (wrap64 (x10_1 + 1)), (by first | rfl | (simp; done) | (simp [*]; done)), H', ⟨by have := HK1.out; omega⟩, ⟨by (with_reducible repeat (first | apply Kd.R_alloc | apply Kd.R_drewN | apply Kd.R_drew)); exact HO273.out⟩, ⟨by repeat (first | (with_reducible first | exact HB.out | apply below_alloc | apply pw_below_drewN | apply below_drew1) | exact HB.out)⟩⟩
              · rw [if_neg c7] at H
                exact absurd H (by simp)
            · rw [if_neg c6] at H
              have c6b0 : ((rd l0 x10_1) == a1) = false := beq_eq_false_iff_ne.mpr c6
              have c6b1 : ((rd l0 x10_1) != a1) = true := bne_iff_ne.mpr c6
              have H' := Aside0.mk H
              clear H
              have p270 : 0 ≤ (x10_1 : Int) := of_decide_eq_true (by first | (with_reducible assumption) | assumption)
              have q270 : x10_1 < (l0.length : Int) := of_decide_eq_true (by first | (with_reducible assumption) | assumption)
              obtain ⟨ad270, e270, hx270_0⟩ := Kd.at_int HR0.out x10_1 p270 q270
              cases e270
              replace hx270_0 := (HB.out.cell (World.block_lt_of_cell? w _ hx270_0)).trans hx270_0
              replace p270 := eq_true p270
              replace q270 := eq_true q270
              go_wp2
              go_roundg k1
              case measure => have := HK1.out; omega
              case rel => exact ⟨(x5_1), (wrap64 (x10_1 + 1)), (by first | rfl | (simp; done) | (simp [*]; done)), H', ⟨by have := HK1.out; omega⟩, ⟨by (with_reducible repeat (first | apply Kd.R_alloc | apply Kd.R_drewN | apply Kd.R_drew)); exact HO_5.out⟩, ⟨by repeat (first | (with_reducible first | exact HB.out | apply below_alloc | apply pw_below_drewN | apply below_drew1) | exact HB.out)⟩⟩
          · rw [if_neg c5] at H
            exact absurd H (by simp)
        · rw [if_neg c4] at H
          exact absurd H (by simp)
      · rw [if_neg c3] at H
        have c3b0 : decide (x10_1 < (l0.length : Int)) = false := decide_eq_false c3
        clear c3
        obtain rfl := Option.some.inj H
        go_wp2
        go_ret
        exact ⟨_, by first | rfl | (simp [errW_none, errW_some] <;> rfl) | (simp [*, errW_none, errW_some] <;> rfl), by (with_reducible repeat (first | apply Kd.R_alloc | apply Kd.R_drewN | apply Kd.R_drew)); exact HO_5.out, by repeat (first | (with_reducible first | exact HB.out | apply below_alloc | apply pw_below_drewN | apply below_drew1) | exact HB.out)⟩

noncomputable def spec_roPlaces.L0 (x1 : Int) (x5 : List Int) (x8 : List Int) (x9 : Int) (x10 : Int) : Option (List Int) := lim fun k => spec_roPlaces.l0 k x1 x5 x8 x9 x10
theorem spec_roPlaces.L0_lim (x1 : Int) (x5 : List Int) (x8 : List Int) (x9 : Int) (x10 : Int) : Lim (fun k => spec_roPlaces.l0 k x1 x5 x8 x9 x10) (spec_roPlaces.L0 x1 x5 x8 x9 x10) := Lim.of fun k => (spec_roPlaces.mono_l k) x1 x5 x8 x9 x10
noncomputable def spec_roPlaces.F (l0 : List Int) (a1 : Int) : Option (List Int) := lim fun k => spec_roPlaces.f k l0 a1
theorem spec_roPlaces.F_lim (l0 : List Int) (a1 : Int) : Lim (fun k => spec_roPlaces.f k l0 a1) (spec_roPlaces.F l0 a1) := Lim.of fun k => spec_roPlaces.mono l0 a1 k
theorem spec_roPlaces.L0_eq (x1 : Int) (x5 : List Int) (x8 : List Int) (x9 : Int) (x10 : Int) : spec_roPlaces.L0 x1 x5 x8 x9 x10 = (if x10 < x9 then (if 0 ≤ x10 then (if x10 < (x8.length : Int) then (if (rd x8 x10) = x1 then (if x5.length < 17592186044416 then (spec_roPlaces.L0 x1 (x5 ++ [x10]) x8 x9 (wrap64 (x10 + 1))) else (none)) else (spec_roPlaces.L0 x1 x5 x8 x9 (wrap64 (x10 + 1)))) else (none)) else (none)) else (some x5)) :=
  Lim.step (f := fun k => (if x10 < x9 then (if 0 ≤ x10 then (if x10 < (x8.length : Int) then (if (rd x8 x10) = x1 then (if x5.length < 17592186044416 then (spec_roPlaces.l0 k x1 (x5 ++ [x10]) x8 x9 (wrap64 (x10 + 1))) else (none)) else (spec_roPlaces.l0 k x1 x5 x8 x9 (wrap64 (x10 + 1)))) else (none)) else (none)) else (some x5))) (spec_roPlaces.L0_lim x1 x5 x8 x9 x10) (fun k => by first | rfl | rw [spec_roPlaces.l0]) (by
    repeat' first
    | (with_reducible exact Lim.const _)
    | (with_reducible exact spec_roPlaces.L0_lim _ _ _ _ _)
    | (with_reducible refine Lim.ite ?_ ?_)
    | (with_reducible refine Lim.bind ?_ (fun _ => ?_)))
theorem spec_roPlaces.F_eq (l0 : List Int) (a1 : Int) : spec_roPlaces.F l0 a1 = (spec_roPlaces.L0 a1 ([] : List Int) l0 (l0.length : Int) 0) :=
  Lim.unique (spec_roPlaces.F_lim l0 a1) (by
    unfold spec_roPlaces.f
    repeat' first
    | (with_reducible exact Lim.const _)
    | (with_reducible exact spec_roPlaces.L0_lim _ _ _ _ _)
    | (with_reducible refine Lim.ite ?_ ?_)
    | (with_reducible refine Lim.bind ?_ (fun _ => ?_)))

end Go.Proofs.Ytmphbmpnenekgaa.Fn
namespace Go.Proofs.Ytmphbmpnenekgaa.Fn
open Go.RowKit Go.Proofs.YtmphbmpnenekgaaW.PrintWords Go.Proofs.YtmphbmpnenekgaaW.PrintLast Go.Proofs.YtmphbmpnenekgaaW.PrintMore
attribute [local go_sem] max2_int min2_int max_two min_two max_three min_three max_four min_four   -- for this text's walks alone
set_option linter.unusedVariables false
set_option linter.unusedSimpArgs false

/-! ### spec_roPairs: function 83 -/
def spec_roPairs.l0 : Nat → List Int → Int → Option (Bool)
  | 0, _, _ => none
  | k + 1, x0, x3 => if x3 ≤ 20 then ((spec_roPlaces.f k x0 x3).bind fun t274 => (if (t274.length : Int) = 0 then (spec_roPairs.l0 k x0 (wrap64 (x3 + 1))) else (if (t274.length : Int) = 2 then (spec_roPairs.l0 k x0 (wrap64 (x3 + 1))) else (some false)))) else (some true)
def spec_roPairs.f (k : Nat) (l0 : List Int) : Option (Bool) := spec_roPairs.l0 k l0 1
theorem spec_roPairs.mono_l : ∀ k, (∀ y0 y1, LeO (spec_roPairs.l0 k y0 y1) (spec_roPairs.l0 (k + 1) y0 y1))
  | 0 => fun _ _ r h => by simp [spec_roPairs.l0] at h
  | k + 1 => by
    have ih0 := spec_roPairs.mono_l k
    · intro y0 y1
      unfold spec_roPairs.l0
      repeat' first
      | (with_reducible exact ih0 _ _)
      | (with_reducible exact spec_roPlaces.mono _ _ _)
      | (with_reducible exact LeO.refl _)
      | (with_reducible exact LeO.none _)
      | (with_reducible refine LeO.ite ?_ ?_)
      | (with_reducible refine LeO.bind ?_ (fun _ => ?_))
      | exact ih0 _ _
      | exact spec_roPlaces.mono _ _ _
      | exact LeO.none _
      | refine LeO.ite ?_ ?_
      | refine LeO.bind ?_ (fun _ => ?_)
theorem spec_roPairs.mono : ∀ a0 k, LeO (spec_roPairs.f k a0) (spec_roPairs.f (k + 1) a0) := by
  intro a0 k
  have ih0 := spec_roPairs.mono_l k
  unfold spec_roPairs.f
  repeat' first
      | (with_reducible exact ih0 _ _)
      | (with_reducible exact spec_roPlaces.mono _ _ _)
      | (with_reducible exact LeO.refl _)
      | (with_reducible exact LeO.none _)
      | (with_reducible refine LeO.ite ?_ ?_)
      | (with_reducible refine LeO.bind ?_ (fun _ => ?_))
      | exact ih0 _ _
      | exact spec_roPlaces.mono _ _ _
      | exact LeO.none _
      | refine LeO.ite ?_ ?_
      | refine LeO.bind ?_ (fun _ => ?_)
set_option maxHeartbeats 8000000 in
set_option maxRecDepth 100000 in
theorem spec_roPairs.calls (k : Nat) (A0 : Option Addr) (c0 : Nat) (l0 : List Int) (r : Bool) (w : World) (hr0 : Kd.C (Kd.int .i64) w A0 l0.length l0) (hc0 : l0.length ≤ c0) (h : spec_roPairs.f k l0 = some r) :
    Calls Try.prog 83 #[.slice A0 l0.length c0] w fun e w' => e = .returned (.bool r) ∧ Below w.heap.size w w' := by
  have HR0 := Aside0.mk hr0
  have HC0 := Aside0.mk hc0
  clear hr0 hc0
  have HB := Aside0.mk (Below.refl w.heap.size w)
  have H : (spec_roPairs.l0 k l0 1) = some r := h
  clear h
  have H' := Aside0.mk H
  clear H
  go_enter Try.func83, Try.ntmps83
  go_wp2
  go_loopg [3] k (fun kq v3 w' => ∃ (x3_1 : Int), v3 = .int .i64 x3_1 ∧ Aside0 (spec_roPairs.l0 kq l0 x3_1 = some r) ∧ Aside0 (kq ≤ k) ∧ Aside0 (Below w.heap.size w w'))
  case atStart => exact ⟨(1), (by first | rfl | (simp; done) | (simp [*]; done)), H', ⟨Nat.le_refl _⟩, ⟨by repeat (first | (with_reducible first | exact HB.out | apply below_alloc | apply pw_below_drewN | apply below_drew1) | exact HB.out)⟩⟩
  case round =>
    clear H'
    obtain ⟨x3_1, rfl, HA, HK1, HB⟩ := hrel
    cases gk with
    | zero => exact absurd HA.out (by simp [spec_roPairs.l0])
    | succ k1 =>
      have H := HA.out
      clear HA
      simp only [spec_roPairs.l0] at H
      by_cases c2 : x3_1 ≤ 20
      · rw [if_pos c2] at H
        have c2b0 : decide (x3_1 ≤ 20) = true := decide_eq_true c2
        clear c2
        replace H := Option.bind_eq_some_iff.mp H
        obtain ⟨t274, A30, H⟩ := H
        replace H : (if (t274.length : Int) = 0 then (spec_roPairs.l0 k1 l0 (wrap64 (x3_1 + 1))) else (if (t274.length : Int) = 2 then (spec_roPairs.l0 k1 l0 (wrap64 (x3_1 + 1))) else (some false))) = some r := H
        have A3 := Aside0.mk A30
        clear A30
        by_cases c4 : (t274.length : Int) = 0
        · rw [if_pos c4] at H
          have c4b0 : ((t274.length : Int) == 0) = true := beq_iff_eq.mpr c4
          have c4b1 : ((t274.length : Int) != 0) = false := bne_eq_false_iff_eq.mpr c4
          clear c4
          have H' := Aside0.mk H
          clear H
          go_wp2_with (first | ((with_reducible refine gate_callee (f := 85) rfl ?_); refine goesL_ (some 11) rfl rfl Try.func85 (by kernel_rfl) rfl #[.slice A0 l0.length c0, .int .i64 x3_1] rfl (by (try simp only [List.map_toArray, List.map_cons, List.map_nil]); first | done | rfl | (simp only [List.length_drop, List.length_take]; rfl)) ?_; (with_reducible refine (spec_roPlaces.calls k1 _ _ l0 x3_1 t274 _ ?side1 ?side2 A3.out).mono ?_); (case side1 => repeat (first | exact (Kd.C_below HR0.out HB.out) | (with_reducible refine Kd.C_alloc ?_ _) | (with_reducible refine Kd.C_drewN ?_ _) | (with_reducible refine Kd.C_drew ?_))); (case side2 => exact HC0.out); rintro e w5 ⟨v275, rfl, ho0, hb⟩; refine ⟨_, rfl, ?_⟩; have n0_ := Aside0.mk (Kd.R_lower ho0 (below_size (by repeat (first | (with_reducible first | exact HB.out | apply below_alloc | apply pw_below_drewN | apply below_drew1) | exact HB.out)))); have n1_ := Aside0.mk (below_step (by repeat (first | (with_reducible first | exact HB.out | apply below_alloc | apply pw_below_drewN | apply below_drew1) | exact HB.out)) hb); clear HB; have HO276 := n0_; have HB := n1_; clear n0_ n1_; (try clear hb); (try clear hb2); (try clear hk); (try clear hi); (try clear ho0); obtain ⟨Ao6, co6, eo6⟩ := Kd.R_slice HO276.out; subst eo6))
          go_roundg k1
          case measure => have := HK1.out; omega
          case rel => exact ⟨(wrap64 (x3_1 + 1)), (by first | rfl | (simp; done) | (simp [*]; done)), H', ⟨by have := HK1.out; omega⟩, ⟨by repeat (first | (with_reducible first | exact HB.out | apply below_alloc | apply pw_below_drewN | apply below_drew1) | exact HB.out)⟩⟩
        · rw [if_neg c4] at H
          have c4b0 : ((t274.length : Int) == 0) = false := beq_eq_false_iff_ne.mpr c4
          have c4b1 : ((t274.length : Int) != 0) = true := bne_iff_ne.mpr c4
          have c4b2 : ¬ (t274 = []) := fun h_ => c4 (by rw [h_]; rfl)
          by_cases c7 : (t274.length : Int) = 2
          · rw [if_pos c7] at H
            have c7b0 : ((t274.length : Int) == 2) = true := beq_iff_eq.mpr c7
            have c7b1 : ((t274.length : Int) != 2) = false := bne_eq_false_iff_eq.mpr c7
            clear c7
            have H' := Aside0.mk H
            clear H
            go_wp2_with (first | ((with_reducible refine gate_callee (f := 85) rfl ?_); refine goesL_ (some 11) rfl rfl Try.func85 (by kernel_rfl) rfl #[.slice A0 l0.length c0, .int .i64 x3_1] rfl (by (try simp only [List.map_toArray, List.map_cons, List.map_nil]); first | done | rfl | (simp only [List.length_drop, List.length_take]; rfl)) ?_; (with_reducible refine (spec_roPlaces.calls k1 _ _ l0 x3_1 t274 _ ?side1 ?side2 A3.out).mono ?_); (case side1 => repeat (first | exact (Kd.C_below HR0.out HB.out) | (with_reducible refine Kd.C_alloc ?_ _) | (with_reducible refine Kd.C_drewN ?_ _) | (with_reducible refine Kd.C_drew ?_))); (case side2 => exact HC0.out); rintro e w8 ⟨v275, rfl, ho0, hb⟩; refine ⟨_, rfl, ?_⟩; have n0_ := Aside0.mk (Kd.R_lower ho0 (below_size (by repeat (first | (with_reducible first | exact HB.out | apply below_alloc | apply pw_below_drewN | apply below_drew1) | exact HB.out)))); have n1_ := Aside0.mk (below_step (by repeat (first | (with_reducible first | exact HB.out | apply below_alloc | apply pw_below_drewN | apply below_drew1) | exact HB.out)) hb); clear HB; have HO276 := n0_; have HB := n1_; clear n0_ n1_; (try clear hb); (try clear hb2); (try clear hk); (try clear hi); (try clear ho0); obtain ⟨Ao9, co9, eo9⟩ := Kd.R_slice HO276.out; subst eo9))
            go_roundg k1
            case measure => have := HK1.out; omega
            case rel => exact ⟨(wrap64 (x3_1 + 1)), (by first | rfl | (simp; done) | (simp [*]; done)), H', ⟨by have := HK1.out; omega⟩, ⟨by repeat (first | (with_reducible first | exact HB.out | apply below_alloc | apply pw_below_drewN | apply below_drew1) | exact HB.out)⟩⟩
          · rw [if_neg c7] at H
            have c7b0 : ((t274.length : Int) == 2) = false := beq_eq_false_iff_ne.mpr c7
            have c7b1 : ((t274.length : Int) != 2) = true := bne_iff_ne.mpr c7
            obtain rfl := Option.some.inj H
            go_wp2_with (first | ((with_reducible refine gate_callee (f := 85) rfl ?_); refine goesL_ (some 11) rfl rfl Try.func85 (by kernel_rfl) rfl #[.slice A0 l0.length c0, .int .i64 x3_1] rfl (by (try simp only [List.map_toArray, List.map_cons, List.map_nil]); first | done | rfl | (simp only [List.length_drop, List.length_take]; rfl)) ?_; (with_reducible refine (spec_roPlaces.calls k1 _ _ l0 x3_1 t274 _ ?side1 ?side2 A3.out).mono ?_); (case side1 => repeat (first | exact (Kd.C_below HR0.out HB.out) | (with_reducible refine Kd.C_alloc ?_ _) | (with_reducible refine Kd.C_drewN ?_ _) | (with_reducible refine Kd.C_drew ?_))); (case side2 => exact HC0.out); rintro e w10 ⟨v275, rfl, ho0, hb⟩; refine ⟨_, rfl, ?_⟩; have n0_ := Aside0.mk (Kd.R_lower ho0 (below_size (by repeat (first | (with_reducible first | exact HB.out | apply below_alloc | apply pw_below_drewN | apply below_drew1) | exact HB.out)))); have n1_ := Aside0.mk (below_step (by repeat (first | (with_reducible first | exact HB.out | apply below_alloc | apply pw_below_drewN | apply below_drew1) | exact HB.out)) hb); clear HB; have HO276 := n0_; have HB := n1_; clear n0_ n1_; (try clear hb); (try clear hb2); (try clear hk); (try clear hi); (try clear ho0); obtain ⟨Ao11, co11, eo11⟩ := Kd.R_slice HO276.out; subst eo11))
            go_ret
            exact ⟨by first | rfl | (simp [errW_none, errW_some] <;> rfl) | (simp [*, errW_none, errW_some] <;> rfl), by repeat (first | (with_reducible first | exact HB.out | apply below_alloc | apply pw_below_drewN | apply below_drew1) | exact HB.out)⟩
      · rw [if_neg c2] at H
        have c2b0 : decide (x3_1 ≤ 20) = false := decide_eq_false c2
        clear c2
        obtain rfl := Option.some.inj H
        go_wp2
        go_ret
        exact ⟨by first | rfl | (simp [errW_none, errW_some] <;> rfl) | (simp [*, errW_none, errW_some] <;> rfl), by repeat (first | (with_reducible first | exact HB.out | apply below_alloc | apply pw_below_drewN | apply below_drew1) | exact HB.out)⟩

noncomputable def spec_roPairs.L0 (x0 : List Int) (x3 : Int) : Option (Bool) := lim fun k => spec_roPairs.l0 k x0 x3
theorem spec_roPairs.L0_lim (x0 : List Int) (x3 : Int) : Lim (fun k => spec_roPairs.l0 k x0 x3) (spec_roPairs.L0 x0 x3) := Lim.of fun k => (spec_roPairs.mono_l k) x0 x3
noncomputable def spec_roPairs.F (l0 : List Int) : Option (Bool) := lim fun k => spec_roPairs.f k l0
theorem spec_roPairs.F_lim (l0 : List Int) : Lim (fun k => spec_roPairs.f k l0) (spec_roPairs.F l0) := Lim.of fun k => spec_roPairs.mono l0 k
theorem spec_roPairs.L0_eq (x0 : List Int) (x3 : Int) : spec_roPairs.L0 x0 x3 = (if x3 ≤ 20 then ((spec_roPlaces.F x0 x3).bind fun t274 => (if (t274.length : Int) = 0 then (spec_roPairs.L0 x0 (wrap64 (x3 + 1))) else (if (t274.length : Int) = 2 then (spec_roPairs.L0 x0 (wrap64 (x3 + 1))) else (some false)))) else (some true)) :=
  Lim.step (f := fun k => (if x3 ≤ 20 then ((spec_roPlaces.f k x0 x3).bind fun t274 => (if (t274.length : Int) = 0 then (spec_roPairs.l0 k x0 (wrap64 (x3 + 1))) else (if (t274.length : Int) = 2 then (spec_roPairs.l0 k x0 (wrap64 (x3 + 1))) else (some false)))) else (some true))) (spec_roPairs.L0_lim x0 x3) (fun k => by first | rfl | rw [spec_roPairs.l0]) (by
    repeat' first
    | (with_reducible exact Lim.const _)
    | (with_reducible exact spec_roPairs.L0_lim _ _)
    | (with_reducible exact spec_roPlaces.F_lim _ _)
    | (with_reducible refine Lim.ite ?_ ?_)
    | (with_reducible refine Lim.bind ?_ (fun _ => ?_)))
theorem spec_roPairs.F_eq (l0 : List Int) : spec_roPairs.F l0 = (spec_roPairs.L0 l0 1) :=
  Lim.unique (spec_roPairs.F_lim l0) (by
    unfold spec_roPairs.f
    repeat' first
    | (with_reducible exact Lim.const _)
    | (with_reducible exact spec_roPairs.L0_lim _ _)
    | (with_reducible refine Lim.ite ?_ ?_)
    | (with_reducible refine Lim.bind ?_ (fun _ => ?_)))

end Go.Proofs.Ytmphbmpnenekgaa.Fn
namespace Go.Proofs.Ytmphbmpnenekgaa.Fn
open Go.RowKit Go.Proofs.YtmphbmpnenekgaaW.PrintWords Go.Proofs.YtmphbmpnenekgaaW.PrintLast Go.Proofs.YtmphbmpnenekgaaW.PrintMore
attribute [local go_sem] max2_int min2_int max_two min_two max_three min_three max_four min_four   -- for this text's walks alone
set_option linter.unusedVariables false
set_option linter.unusedSimpArgs false

/-! ### spec_roIs: function 59 -/
def spec_roIs.f (k : Nat) (l0 : List Int) : Option (Bool) := (spec_roGood.f k l0).bind fun t277 => (if t277 = true then ((spec_roPairs.f k l0).bind fun t278 => (some t278)) else (some false))
theorem spec_roIs.mono : ∀ a0 k, LeO (spec_roIs.f k a0) (spec_roIs.f (k + 1) a0) := by
  intro a0 k
  unfold spec_roIs.f
  repeat' first
      | (with_reducible exact spec_roGood.mono _ _)
      | (with_reducible exact spec_roPairs.mono _ _)
      | (with_reducible exact LeO.refl _)
      | (with_reducible exact LeO.none _)
      | (with_reducible refine LeO.ite ?_ ?_)
      | (with_reducible refine LeO.bind ?_ (fun _ => ?_))
      | exact spec_roGood.mono _ _
      | exact spec_roPairs.mono _ _
      | exact LeO.none _
      | refine LeO.ite ?_ ?_
      | refine LeO.bind ?_ (fun _ => ?_)
set_option maxHeartbeats 8000000 in
set_option maxRecDepth 100000 in
theorem spec_roIs.calls (k : Nat) (A0 : Option Addr) (c0 : Nat) (l0 : List Int) (r : Bool) (w : World) (hr0 : Kd.C (Kd.int .i64) w A0 l0.length l0) (hc0 : l0.length ≤ c0) (h : spec_roIs.f k l0 = some r) :
    Calls Try.prog 59 #[.slice A0 l0.length c0] w fun e w' => e = .returned (.bool r) ∧ Below w.heap.size w w' := by
  have HR0 := Aside0.mk hr0
  have HC0 := Aside0.mk hc0
  clear hr0 hc0
  have HB := Aside0.mk (Below.refl w.heap.size w)
  have H : ((spec_roGood.f k l0).bind fun t277 => (if t277 = true then ((spec_roPairs.f k l0).bind fun t278 => (some t278)) else (some false))) = some r := h
  clear h
  replace H := Option.bind_eq_some_iff.mp H
  obtain ⟨t277, A20, H⟩ := H
  replace H : (if t277 = true then ((spec_roPairs.f k l0).bind fun t278 => (some t278)) else (some false)) = some r := H
  have A2 := Aside0.mk A20
  clear A20
  by_cases c3 : t277 = true
  · subst c3
    have H1 : ((spec_roPairs.f k l0).bind fun t278 => (some t278)) = some r := by rw [if_pos rfl] at H; exact H
    clear H
    have H := H1
    clear H1
    replace H := Option.bind_eq_some_iff.mp H
    obtain ⟨t278, A40, H⟩ := H
    replace H : (some t278) = some r := H
    have A4 := Aside0.mk A40
    clear A40
    obtain rfl := Option.some.inj H
    go_enter Try.func59, Try.ntmps59
    go_wp2_with (first | ((with_reducible refine gate_callee (f := 48) rfl ?_); refine goesL_ (some 4) rfl rfl Try.func48 (by kernel_rfl) rfl #[.slice A0 l0.length c0] rfl (by (try simp only [List.map_toArray, List.map_cons, List.map_nil]); first | done | rfl | (simp only [List.length_drop, List.length_take]; rfl)) ?_; (with_reducible refine (spec_roGood.calls k _ _ l0 true _ ?side1 ?side2 A2.out).mono ?_); (case side1 => repeat (first | exact HR0.out | (with_reducible refine Kd.C_alloc ?_ _) | (with_reducible refine Kd.C_drewN ?_ _) | (with_reducible refine Kd.C_drew ?_))); (case side2 => exact HC0.out); rintro e w' ⟨rfl, ⟨nd, rfl⟩⟩; refine ⟨_, rfl, ?_⟩) | (go_at_call 83; (with_reducible refine (spec_roPairs.calls k _ _ l0 t278 _ ?side1 ?side2 A4.out).mono ?_); (case side1 => repeat (first | exact HR0.out | (with_reducible refine Kd.C_alloc ?_ _) | (with_reducible refine Kd.C_drewN ?_ _) | (with_reducible refine Kd.C_drew ?_))); (case side2 => exact HC0.out); rintro e w5 ⟨rfl, hb⟩; have n0_ := Aside0.mk (below_step (by repeat (first | (with_reducible first | exact HB.out | apply below_alloc | apply pw_below_drewN | apply below_drew1) | exact HB.out)) hb); clear HB; have HB := n0_; clear n0_; (try clear hb); (try clear hb2); (try clear hk); (try clear hi)))
    go_ret
    exact ⟨by first | rfl | (simp [errW_none, errW_some] <;> rfl) | (simp [*, errW_none, errW_some] <;> rfl), by repeat (first | (with_reducible first | exact HB.out | apply below_alloc | apply pw_below_drewN | apply below_drew1) | exact HB.out)⟩
  · replace c3 := Bool.eq_false_iff.mpr c3
    subst c3
    have H1 : (some false) = some r := by rw [if_neg (show ¬ (false = true) by decide)] at H; exact H
    clear H
    have H := H1
    clear H1
    obtain rfl := Option.some.inj H
    go_enter Try.func59, Try.ntmps59
    go_wp2_with (first | ((with_reducible refine gate_callee (f := 48) rfl ?_); refine goesL_ (some 4) rfl rfl Try.func48 (by kernel_rfl) rfl #[.slice A0 l0.length c0] rfl (by (try simp only [List.map_toArray, List.map_cons, List.map_nil]); first | done | rfl | (simp only [List.length_drop, List.length_take]; rfl)) ?_; (with_reducible refine (spec_roGood.calls k _ _ l0 false _ ?side1 ?side2 A2.out).mono ?_); (case side1 => repeat (first | exact HR0.out | (with_reducible refine Kd.C_alloc ?_ _) | (with_reducible refine Kd.C_drewN ?_ _) | (with_reducible refine Kd.C_drew ?_))); (case side2 => exact HC0.out); rintro e w' ⟨rfl, ⟨nd, rfl⟩⟩; refine ⟨_, rfl, ?_⟩))
    go_ret
    exact ⟨by first | rfl | (simp [errW_none, errW_some] <;> rfl) | (simp [*, errW_none, errW_some] <;> rfl), by repeat (first | (with_reducible first | exact HB.out | apply below_alloc | apply pw_below_drewN | apply below_drew1) | exact HB.out)⟩

noncomputable def spec_roIs.F (l0 : List Int) : Option (Bool) := lim fun k => spec_roIs.f k l0
theorem spec_roIs.F_lim (l0 : List Int) : Lim (fun k => spec_roIs.f k l0) (spec_roIs.F l0) := Lim.of fun k => spec_roIs.mono l0 k
theorem spec_roIs.F_eq (l0 : List Int) : spec_roIs.F l0 = ((spec_roGood.F l0).bind fun t277 => (if t277 = true then ((spec_roPairs.F l0).bind fun t278 => (some t278)) else (some false))) :=
  Lim.unique (spec_roIs.F_lim l0) (by
    unfold spec_roIs.f
    repeat' first
    | (with_reducible exact Lim.const _)
    | (with_reducible exact spec_roGood.F_lim _)
    | (with_reducible exact spec_roPairs.F_lim _)
    | (with_reducible refine Lim.ite ?_ ?_)
    | (with_reducible refine Lim.bind ?_ (fun _ => ?_)))

end Go.Proofs.Ytmphbmpnenekgaa.Fn
namespace Go.Proofs.Ytmphbmpnenekgaa.Fn
open Go.RowKit Go.Proofs.YtmphbmpnenekgaaW.PrintWords Go.Proofs.YtmphbmpnenekgaaW.PrintLast Go.Proofs.YtmphbmpnenekgaaW.PrintMore
attribute [local go_sem] max2_int min2_int max_two min_two max_three min_three max_four min_four   -- for this text's walks alone
set_option linter.unusedVariables false
set_option linter.unusedSimpArgs false

/-! ### spec_l1Has: function 88 -/
def spec_l1Has.l0 : Nat → Int → List Int → Int → Int → Option (Bool)
  | 0, _, _, _, _ => none
  | k + 1, x1, x7, x8, x9 => if x9 < x8 then (if 0 ≤ x9 then (if x9 < (x7.length : Int) then (if (rd x7 x9) = x1 then (some true) else (spec_l1Has.l0 k x1 x7 x8 (wrap64 (x9 + 1)))) else (none)) else (none)) else (some false)
def spec_l1Has.f (k : Nat) (l0 : List Int) (a1 : Int) : Option (Bool) := spec_l1Has.l0 k a1 l0 (l0.length : Int) 0
theorem spec_l1Has.mono_l : ∀ k, (∀ y0 y1 y2 y3, LeO (spec_l1Has.l0 k y0 y1 y2 y3) (spec_l1Has.l0 (k + 1) y0 y1 y2 y3))
  | 0 => fun _ _ _ _ r h => by simp [spec_l1Has.l0] at h
  | k + 1 => by
    have ih0 := spec_l1Has.mono_l k
    · intro y0 y1 y2 y3
      unfold spec_l1Has.l0
      repeat' first
      | (with_reducible exact ih0 _ _ _ _)
      | (with_reducible exact LeO.refl _)
      | (with_reducible exact LeO.none _)
      | (with_reducible refine LeO.ite ?_ ?_)
      | (with_reducible refine LeO.bind ?_ (fun _ => ?_))
      | exact ih0 _ _ _ _
      | exact LeO.none _
      | refine LeO.ite ?_ ?_
      | refine LeO.bind ?_ (fun _ => ?_)
theorem spec_l1Has.mono : ∀ a0 a1 k, LeO (spec_l1Has.f k a0 a1) (spec_l1Has.f (k + 1) a0 a1) := by
  intro a0 a1 k
  have ih0 := spec_l1Has.mono_l k
  unfold spec_l1Has.f
  repeat' first
      | (with_reducible exact ih0 _ _ _ _)
      | (with_reducible exact LeO.refl _)
      | (with_reducible exact LeO.none _)
      | (with_reducible refine LeO.ite ?_ ?_)
      | (with_reducible refine LeO.bind ?_ (fun _ => ?_))
      | exact ih0 _ _ _ _
      | exact LeO.none _
      | refine LeO.ite ?_ ?_
      | refine LeO.bind ?_ (fun _ => ?_)
set_option maxHeartbeats 8000000 in
set_option maxRecDepth 100000 in
theorem spec_l1Has.calls (k : Nat) (A0 : Option Addr) (c0 : Nat) (l0 : List Int) (a1 : Int) (r : Bool) (w : World) (hr0 : Kd.C (Kd.int .i64) w A0 l0.length l0) (hc0 : l0.length ≤ c0) (h : spec_l1Has.f k l0 a1 = some r) :
    Calls Try.prog 88 #[.slice A0 l0.length c0, .int .i64 a1] w fun e w' => e = .returned (.bool r) ∧ Drawn0 w w' := by
  have HR0 := Aside0.mk hr0
  have HC0 := Aside0.mk hc0
  clear hr0 hc0
  have H : (spec_l1Has.l0 k a1 l0 (l0.length : Int) 0) = some r := h
  clear h
  have H' := Aside0.mk H
  clear H
  go_enter Try.func88, Try.ntmps88
  go_wp2
  go_loopg [9] k (fun kq v9 w' => ∃ (x9_1 : Int), v9 = .int .i64 x9_1 ∧ Aside0 (spec_l1Has.l0 kq a1 l0 (l0.length : Int) x9_1 = some r) ∧ Aside0 (kq ≤ k) ∧ Drawn0 w w')
  case atStart => exact ⟨(0), (by first | rfl | (simp; done) | (simp [*]; done)), H', ⟨Nat.le_refl _⟩, by repeat (first | exact Drawn0.refl _ | apply Drawn0.step)⟩
  case round =>
    clear H'
    try clear p2
    obtain ⟨x9_1, rfl, HA, HK1, ⟨m1, rfl⟩⟩ := hrel
    cases gk with
    | zero => exact absurd HA.out (by simp [spec_l1Has.l0])
    | succ k1 =>
      have H := HA.out
      clear HA
      simp only [spec_l1Has.l0] at H
      by_cases c3 : x9_1 < (l0.length : Int)
      · rw [if_pos c3] at H
        have c3b0 : decide (x9_1 < (l0.length : Int)) = true := decide_eq_true c3
        clear c3
        by_cases c4 : 0 ≤ x9_1
        · rw [if_pos c4] at H
          have c4b0 : decide (0 ≤ x9_1) = true := decide_eq_true c4
          clear c4
          by_cases c5 : x9_1 < (l0.length : Int)
          · rw [if_pos c5] at H
            have c5b0 : decide (x9_1 < (l0.length : Int)) = true := decide_eq_true c5
            clear c5
            by_cases c6 : (rd l0 x9_1) = a1
            · rw [if_pos c6] at H
              have c6b0 : ((rd l0 x9_1) == a1) = true := beq_iff_eq.mpr c6
              have c6b1 : ((rd l0 x9_1) != a1) = false := bne_eq_false_iff_eq.mpr c6
              clear c6
              obtain rfl := Option.some.inj H
              have p279 : 0 ≤ (x9_1 : Int) := of_decide_eq_true (by first | (with_reducible assumption) | assumption)
              have q279 : x9_1 < (l0.length : Int) := of_decide_eq_true (by first | (with_reducible assumption) | assumption)
              obtain ⟨ad279, e279, hx279_0⟩ := Kd.at_int HR0.out x9_1 p279 q279
              cases e279
              replace p279 := eq_true p279
              replace q279 := eq_true q279
              go_wp2
              go_ret
              exact ⟨by first | rfl | (simp; done) | (simp [*]; done), by repeat (first | exact Drawn0.refl _ | apply Drawn0.step)⟩
            · rw [if_neg c6] at H
              have c6b0 : ((rd l0 x9_1) == a1) = false := beq_eq_false_iff_ne.mpr c6
              have c6b1 : ((rd l0 x9_1) != a1) = true := bne_iff_ne.mpr c6
              have H' := Aside0.mk H
              clear H
              have p279 : 0 ≤ (x9_1 : Int) := of_decide_eq_true (by first | (with_reducible assumption) | assumption)
              have q279 : x9_1 < (l0.length : Int) := of_decide_eq_true (by first | (with_reducible assumption) | assumption)
              obtain ⟨ad279, e279, hx279_0⟩ := Kd.at_int HR0.out x9_1 p279 q279
              cases e279
              replace p279 := eq_true p279
              replace q279 := eq_true q279
              go_wp2
              go_roundg k1
              case measure => have := HK1.out; omega
              case rel => exact ⟨(wrap64 (x9_1 + 1)), (by first | rfl | (simp; done) | (simp [*]; done)), H', ⟨by have := HK1.out; omega⟩, by repeat (first | exact Drawn0.refl _ | apply Drawn0.step)⟩
          · rw [if_neg c5] at H
            exact absurd H (by simp)
        · rw [if_neg c4] at H
          exact absurd H (by simp)
      · rw [if_neg c3] at H
        have c3b0 : decide (x9_1 < (l0.length : Int)) = false := decide_eq_false c3
        clear c3
        obtain rfl := Option.some.inj H
        go_wp2
        go_ret
        exact ⟨by first | rfl | (simp; done) | (simp [*]; done), by repeat (first | exact Drawn0.refl _ | apply Drawn0.step)⟩

noncomputable def spec_l1Has.L0 (x1 : Int) (x7 : List Int) (x8 : Int) (x9 : Int) : Option (Bool) := lim fun k => spec_l1Has.l0 k x1 x7 x8 x9
theorem spec_l1Has.L0_lim (x1 : Int) (x7 : List Int) (x8 : Int) (x9 : Int) : Lim (fun k => spec_l1Has.l0 k x1 x7 x8 x9) (spec_l1Has.L0 x1 x7 x8 x9) := Lim.of fun k => (spec_l1Has.mono_l k) x1 x7 x8 x9
noncomputable def spec_l1Has.F (l0 : List Int) (a1 : Int) : Option (Bool) := lim fun k => spec_l1Has.f k l0 a1
theorem spec_l1Has.F_lim (l0 : List Int) (a1 : Int) : Lim (fun k => spec_l1Has.f k l0 a1) (spec_l1Has.F l0 a1) := Lim.of fun k => spec_l1Has.mono l0 a1 k
theorem spec_l1Has.L0_eq (x1 : Int) (x7 : List Int) (x8 : Int) (x9 : Int) : spec_l1Has.L0 x1 x7 x8 x9 = (if x9 < x8 then (if 0 ≤ x9 then (if x9 < (x7.length : Int) then (if (rd x7 x9) = x1 then (some true) else (spec_l1Has.L0 x1 x7 x8 (wrap64 (x9 + 1)))) else (none)) else (none)) else (some false)) :=
  Lim.step (f := fun k => (if x9 < x8 then (if 0 ≤ x9 then (if x9 < (x7.length : Int) then (if (rd x7 x9) = x1 then (some true) else (spec_l1Has.l0 k x1 x7 x8 (wrap64 (x9 + 1)))) else (none)) else (none)) else (some false))) (spec_l1Has.L0_lim x1 x7 x8 x9) (fun k => by first | rfl | rw [spec_l1Has.l0]) (by
    repeat' first
    | (with_reducible exact Lim.const _)
    | (with_reducible exact spec_l1Has.L0_lim _ _ _ _)
    | (with_reducible refine Lim.ite ?_ ?_)
    | (with_reducible refine Lim.bind ?_ (fun _ => ?_)))
theorem spec_l1Has.F_eq (l0 : List Int) (a1 : Int) : spec_l1Has.F l0 a1 = (spec_l1Has.L0 a1 l0 (l0.length : Int) 0) :=
  Lim.unique (spec_l1Has.F_lim l0 a1) (by
    unfold spec_l1Has.f
    repeat' first
    | (with_reducible exact Lim.const _)
    | (with_reducible exact spec_l1Has.L0_lim _ _ _ _)
    | (with_reducible refine Lim.ite ?_ ?_)
    | (with_reducible refine Lim.bind ?_ (fun _ => ?_)))

end Go.Proofs.Ytmphbmpnenekgaa.Fn
