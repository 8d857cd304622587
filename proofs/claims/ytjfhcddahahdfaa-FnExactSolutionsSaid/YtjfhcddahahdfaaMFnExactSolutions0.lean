/- The machine's side and plain lemmas for FnExactSolutions: texts of this session, merged by its program (part 0). -/
import Derived.Test.YtjfhcddahahdfaaWWords
import Derived.Test.YtjfhcddahahdfaaWMore
import Derived.Test.YtjfhcddahahdfaaWLast
import Derived.Test.YtjfhcddahahdfaaProg
import Derived.Below
import Derived.Deep.Draws
import Derived.Deep.AppendLies
import Derived.Maps.AppendAt
import Derived.OwnWalk
import Derived.Laws.BytesArg
import Derived.Laws.MakeOwn
import Derived.Laws.OwnMore
import Derived.Deep.OwnRows
import Derived.Tactics
import Derived.Lib.ConvBytes
import Derived.Laws.Slices
import Derived.WalkKit
import Derived.KernelRfl
import Derived.RowKit3
import Derived.Deep.LoopGhost
import Derived.Deep.QuietTactic
import Derived.BigQuiet
import Derived.WideLaws
import Derived.Deep.DeepCutAuto
import Derived.Deep.CutBlock
import Derived.Deep.RegionHeld3
import Derived.Laws.Rows
import Derived.Lib.AppendStr
import Derived.ArgAppend
import Derived.Laws.IdiomCopy
import Derived.OrdersHeld
import Derived.Laws.BitsLemmas
import Derived.RowKit
import Derived.Test.YtjfhcddahahdfaaWTab
import Derived.Test.YtjfhcddahahdfaaWFour
import Derived.Test.YtjfhcddahahdfaaWQPut
import Derived.Test.YtjfhcddahahdfaaWApart
import Derived.Test.YtjfhcddahahdfaaWArr
import Derived.Test.YtjfhcddahahdfaaWZeros
import Derived.Test.YtjfhcddahahdfaaWFoot
import Derived.Test.YtjfhcddahahdfaaWKept
import Derived.Test.YtjfhcddahahdfaaWShare
import Derived.Test.YtjfhcddahahdfaaWN
import Derived.Test.YtjfhcddahahdfaaWFootNe
import Derived.Test.YtjfhcddahahdfaaWAt
import Derived.Test.YtjfhcddahahdfaaWEqStruct
import Derived.Test.YtjfhcddahahdfaaWRepsOne
import Derived.Test.YtjfhcddahahdfaaWInv
import Derived.Test.YtjfhcddahahdfaaWInvWords
import Derived.Test.YtjfhcddahahdfaaWGuard
import Derived.Test.YtjfhcddahahdfaaWNEv
import Derived.Lib.SliceRun
namespace Go.Proofs.Ytjfhcddahahdfaa.Fn
open Go.RowKit Go.Proofs.YtjfhcddahahdfaaW.PrintWords Go.Proofs.YtjfhcddahahdfaaW.PrintLast

/-- What a function with rounds comes to; none where it comes to nothing. -/
noncomputable def lim {α : Type} (g : Nat → Option α) : Option α := open Classical in if h : ∃ k r, g k = some r then g (Classical.choose h) else none
/-- g gives more with more rounds, and comes to a. -/
structure Lim {α : Type} (g : Nat → Option α) (a : Option α) : Prop where
  mono : ∀ k, LeO (g k) (g (k + 1))
  comes : ∀ r, a = some r ↔ ∃ k, g k = some r
theorem lim_some {α : Type} {g : Nat → Option α} (hg : ∀ k, LeO (g k) (g (k + 1))) (r : α) : lim g = some r ↔ ∃ k, g k = some r := by
  unfold lim
  constructor
  · intro h
    split at h
    · exact ⟨_, h⟩
    · cases h
  · rintro ⟨k, hk⟩
    have hx : ∃ k r, g k = some r := ⟨k, r, hk⟩
    rw [dif_pos hx]
    obtain ⟨r', hr'⟩ := Classical.choose_spec hx
    have h1 := at_rounds hg (Nat.le_max_left k (Classical.choose hx)) hk
    have h2 := at_rounds hg (Nat.le_max_right k (Classical.choose hx)) hr'
    rw [h1] at h2
    rw [hr', h2]
theorem Lim.of {α : Type} {g : Nat → Option α} (hg : ∀ k, LeO (g k) (g (k + 1))) : Lim g (lim g) := ⟨hg, lim_some hg⟩
theorem Lim.unique {α : Type} {g : Nat → Option α} {a b : Option α} (ha : Lim g a) (hb : Lim g b) : a = b := by
  have h : ∀ r, a = some r ↔ b = some r := fun r => (ha.comes r).trans (hb.comes r).symm
  cases a with
  | none =>
    cases b with
    | none => rfl
    | some r => exact absurd ((h r).2 rfl) (by simp)
  | some r => exact ((h r).1 rfl).symm
theorem Lim.const {α : Type} (a : Option α) : Lim (fun _ => a) a := ⟨fun _ => LeO.refl _, fun _ => ⟨fun h => ⟨0, h⟩, fun ⟨_, h⟩ => h⟩⟩
theorem Lim.ite {α : Type} {c : Prop} [Decidable c] {g f : Nat → Option α} {a b : Option α} (hg : Lim g a) (hf : Lim f b) : Lim (fun k => if c then g k else f k) (if c then a else b) := by
  by_cases h : c
  · simp only [if_pos h]
    exact hg
  · simp only [if_neg h]
    exact hf
theorem Lim.bind {α β : Type} {g : Nat → Option α} {f : Nat → α → Option β} {a : Option α} {b : α → Option β} (hg : Lim g a) (hf : ∀ x, Lim (fun k => f k x) (b x)) : Lim (fun k => (g k).bind (f k)) (a.bind b) := by
  refine ⟨fun k => LeO.bind (hg.mono k) (fun x => (hf x).mono k), fun r => ⟨fun h => ?_, fun ⟨k, h⟩ => ?_⟩⟩
  · obtain ⟨x, hx, hb⟩ := Option.bind_eq_some_iff.1 h
    obtain ⟨k, hk⟩ := (hg.comes x).1 hx
    obtain ⟨k', hk'⟩ := ((hf x).comes r).1 hb
    refine ⟨max k k', Option.bind_eq_some_iff.2 ⟨x, at_rounds hg.mono (Nat.le_max_left _ _) hk, ?_⟩⟩
    exact at_rounds (g := fun k => f k x) (hf x).mono (Nat.le_max_right _ _) hk'
  · obtain ⟨x, hx, hb⟩ := Option.bind_eq_some_iff.1 h
    exact Option.bind_eq_some_iff.2 ⟨x, (hg.comes x).2 ⟨k, hx⟩, ((hf x).comes r).2 ⟨k, hb⟩⟩
/-- One round of a loop: what stands behind it comes to the same. -/
theorem Lim.step {α : Type} {g f : Nat → Option α} {a b : Option α} (ha : Lim g a) (hs : ∀ k, g (k + 1) = f k) (hf : Lim f b) : a = b := by
  refine Lim.unique (g := f) ⟨hf.mono, fun r => (ha.comes r).trans ⟨fun ⟨k, h⟩ => ⟨k, ?_⟩, fun ⟨k, h⟩ => ⟨k + 1, (hs k).trans h⟩⟩⟩ hf
  rw [← hs]
  exact ha.mono k r h
theorem Lim.rounds {α : Type} {g : Nat → Option α} {a : Option α} {r : α} (h : Lim g a) (e : a = some r) : ∃ k, g k = some r := (h.comes r).1 e

/-! ### loops over a list -/
theorem wrap_in {n : Int} (h0 : -9223372036854775808 ≤ n) (h1 : n ≤ 9223372036854775807) : wrap64 n = n := by
  unfold wrap64
  omega
theorem rd_mid (pre : List Int) (x : Int) (suf : List Int) : rd (pre ++ x :: suf) (pre.length : Int) = x := by
  unfold rd
  simp
theorem rd_nat (l : List Int) (i : Nat) (h : i < l.length) : rd l (i : Int) = l[i] := by
  unfold rd
  simp [List.getD_eq_getElem?_getD, List.getElem?_eq_getElem h]
theorem range_step {α : Type} {pre : List Int} {x : Int} {suf : List Int} {b n1 n2 e : α} : (if (pre.length : Int) < ((pre ++ x :: suf).length : Int) then (if 0 ≤ (pre.length : Int) then (if (pre.length : Int) < ((pre ++ x :: suf).length : Int) then b else n1) else n2) else e) = b := by
  have h : (pre.length : Int) < ((pre ++ x :: suf).length : Int) := by rw [List.length_append, List.length_cons]; omega
  rw [if_pos h, if_pos (by omega), if_pos h]
theorem range_end {α : Type} {pre : List Int} {b e : α} : (if (pre.length : Int) < ((pre ++ []).length : Int) then b else e) = e := by
  rw [if_neg (by simp)]
theorem wrap_mid {pre : List Int} {x : Int} {suf : List Int} (h : (pre ++ x :: suf).length < 4611686018427387904) : wrap64 ((pre.length : Int) + 1) = ((pre ++ [x]).length : Int) := by
  have h1 : pre.length + 1 ≤ (pre ++ x :: suf).length := by rw [List.length_append, List.length_cons]; omega
  rw [wrap_in (by omega) (by omega)]
  simp
theorem app_mid (pre : List Int) (x : Int) (suf : List Int) : pre ++ x :: suf = (pre ++ [x]) ++ suf := by simp
/-- What is held up to here is nothing; from here on it is S'. -/
theorem weak_ {P : Program} {md : Region.Mode} {ops : Array Oper} {Q : Exit → Act → World → Prop} {S' : World → Prop} {ds : List Nat} : ∀ {fuel : Nat} {l : Array Bool} {a : Act} {w : World}, wpAnyLast P md ops Q S' ds fuel l a w → wpAnyLast P md ops Q (fun _ => True) ds fuel l a w
  | 0, _, _, _, h => h
  | _ + 1, _, _, _, h => ⟨h.1, fun i hi => wpOp_mono (fun _ _ h' => ⟨fun _ _ => trivial, weak_ h'.2⟩) (h.2 i hi)⟩
end Go.Proofs.Ytjfhcddahahdfaa.Fn
namespace Go.Proofs.Ytjfhcddahahdfaa.Fn
open Go.RowKit Go.Proofs.YtjfhcddahahdfaaW.PrintWords Go.Proofs.YtjfhcddahahdfaaW.PrintLast Go.Proofs.YtjfhcddahahdfaaW.PrintMore
attribute [local go_sem] max2_int min2_int max_two min_two max_three min_three max_four min_four   -- for this text's walks alone
set_option linter.unusedVariables false
set_option linter.unusedSimpArgs false



def errW : Option Int → Value
  | none => .nilIface
  | some c => .iface 0 (.int .i64 c)
theorem errW_none : errW none = .nilIface := rfl
theorem errW_some (c : Int) : errW (some c) = .iface 0 (.int .i64 c) := rfl

theorem info3 : (Try.prog.info? 3).map (fun i => (i.zero, i.size, i.bytes)) = some (some (.int .i64 0), 1, 8) := by kernel_rfl
theorem info22 : (Try.prog.info? 22).map (fun i => (i.zero, i.size, i.bytes)) = some (some (.slice none 0 0), 1, 24) := by kernel_rfl
-- the values' own types
def rd_L1 (xs : List (List Int)) (i : Int) : (List Int) := xs.getD i.toNat ([] : List Int)
theorem at_L1 {w : World} {A : Option Addr} {n : Nat} {xs : List (List Int)} (h : Kd.C (Kd.slice 3 (Kd.int .i64)) w A n xs) (i : Int) (h0 : 0 ≤ i) (h1 : i < n) : ∃ ad A0 c0, A = some ad ∧ w.cell? (ad.add i.toNat) = some (.slice A0 (rd_L1 xs i).length c0) ∧ (rd_L1 xs i).length ≤ c0 ∧ (Kd.int .i64).C w A0 (rd_L1 xs i).length (rd_L1 xs i) := by
  obtain ⟨ad, c, e, _, hK, hc0⟩ := Kd.C_get h ([] : List Int) i h0 h1
  have hc : ∀ j u, c[j]? = some u → w.cell? (ad.add (i.toNat * 1 + j)) = some u := hc0
  obtain ⟨A0, c0, rfl, l0, g0⟩ := hK
  exact ⟨ad, A0, c0, e, by have hq := hc 0 _ rfl; rwa [Nat.mul_one, Nat.add_zero] at hq, l0, g0⟩

/-! #### struct type 27 -/
structure S27 where
  f0 : (List Int)
  f1 : Int
  f2 : Int
def z27 : S27 := ⟨([] : List Int), (0 : Int), (0 : Int)⟩
def k27 : Kd S27 := Kd.iso (Kd.pair (Kd.slice 3 (Kd.int .i64)) (Kd.pair (Kd.int .i64) (Kd.int .i64))) (fun x : S27 => (x.f0, x.f1, x.f2))
theorem k27_heap : Kd.Heap k27 := Kd.heap_iso _ (Kd.heap_pair (Kd.heap_slice 3 (Kd.heap_int .i64)) (Kd.heap_pair (Kd.heap_int .i64) (Kd.heap_int .i64)))
theorem k27_open {w : World} {x : S27} {cs : List Value} (h : k27.K w x cs) : ∃ A0 c0, cs = [.slice A0 x.f0.length c0, .int .i64 x.f1, .int .i64 x.f2] ∧ x.f0.length ≤ c0 ∧ (Kd.int .i64).C w A0 x.f0.length x.f0 := by
  obtain ⟨_, _, rfl, ⟨A0, c0, rfl, l0, g0⟩, ⟨_, _, rfl, rfl, rfl⟩⟩ := h
  exact ⟨A0, c0, rfl, l0, g0⟩
theorem k27_openM {w : World} {base : Nat} {ok : Nat → Prop} {x : S27} {cs : List Value} (h : k27.M w base ok x cs) : ∃ v0, cs = [v0, .int .i64 x.f1, .int .i64 x.f2] ∧ (Kd.int .i64).R 3 w base ok v0 x.f0 := by
  obtain ⟨_, _, rfl, ⟨v0, rfl, g0⟩, ⟨_, _, rfl, rfl, rfl⟩⟩ := h
  exact ⟨v0, rfl, g0⟩
theorem k27_mk (w : World) (x : S27) {A0 : Option Addr} {c0 : Nat} (l0 : x.f0.length ≤ c0) (g0 : (Kd.int .i64).C w A0 x.f0.length x.f0) : k27.K w x [.slice A0 x.f0.length c0, .int .i64 x.f1, .int .i64 x.f2] := ⟨[.slice A0 x.f0.length c0], [.int .i64 x.f1, .int .i64 x.f2], rfl, ⟨A0, c0, rfl, l0, g0⟩, ⟨[.int .i64 x.f1], [.int .i64 x.f2], rfl, rfl, rfl⟩⟩
theorem k27_mkM (w : World) (base : Nat) (ok : Nat → Prop) (x : S27) {v0 : Value} (g0 : (Kd.int .i64).R 3 w base ok v0 x.f0) : k27.M w base ok x [v0, .int .i64 x.f1, .int .i64 x.f2] := ⟨[v0], [.int .i64 x.f1, .int .i64 x.f2], rfl, ⟨v0, rfl, g0⟩, ⟨[.int .i64 x.f1], [.int .i64 x.f2], rfl, rfl, rfl⟩⟩
def rd_T27 (xs : List S27) (i : Int) : S27 := xs.getD i.toNat z27
theorem at_T27 {w : World} {A : Option Addr} {n : Nat} {xs : List S27} (h : Kd.C k27 w A n xs) (i : Int) (h0 : 0 ≤ i) (h1 : i < n) : ∃ ad A0 c0, A = some ad ∧ w.cell? (ad.add (i.toNat * 3)) = some (.slice A0 (rd_T27 xs i).f0.length c0) ∧ w.cell? ⟨(ad.add (i.toNat * 3)).block, (ad.add (i.toNat * 3)).off + 1, none⟩ = some (.int .i64 (rd_T27 xs i).f1) ∧ w.cell? ⟨(ad.add (i.toNat * 3)).block, (ad.add (i.toNat * 3)).off + 2, none⟩ = some (.int .i64 (rd_T27 xs i).f2) ∧ (rd_T27 xs i).f0.length ≤ c0 ∧ (Kd.int .i64).C w A0 (rd_T27 xs i).f0.length (rd_T27 xs i).f0 := by
  obtain ⟨ad, c, e, _, hK, hc0⟩ := Kd.C_get h z27 i h0 h1
  have hc : ∀ j u, c[j]? = some u → w.cell? (ad.add (i.toNat * 3 + j)) = some u := hc0
  obtain ⟨A0, c0, rfl, l0, g0⟩ := k27_open hK
  exact ⟨ad, A0, c0, e, hc 0 _ rfl, by rw [← add_field _ _ 1 (by omega)]; exact hc 1 _ rfl, by rw [← add_field _ _ 2 (by omega)]; exact hc 2 _ rfl, l0, g0⟩

def rd_L3 (xs : List (List (List Int))) (i : Int) : (List (List Int)) := xs.getD i.toNat ([] : List (List Int))
theorem at_L3 {w : World} {A : Option Addr} {n : Nat} {xs : List (List (List Int))} (h : Kd.C (Kd.slice 22 (Kd.slice 3 (Kd.int .i64))) w A n xs) (i : Int) (h0 : 0 ≤ i) (h1 : i < n) : ∃ ad A0 c0, A = some ad ∧ w.cell? (ad.add i.toNat) = some (.slice A0 (rd_L3 xs i).length c0) ∧ (rd_L3 xs i).length ≤ c0 ∧ (Kd.slice 3 (Kd.int .i64)).C w A0 (rd_L3 xs i).length (rd_L3 xs i) := by
  obtain ⟨ad, c, e, _, hK, hc0⟩ := Kd.C_get h ([] : List (List Int)) i h0 h1
  have hc : ∀ j u, c[j]? = some u → w.cell? (ad.add (i.toNat * 1 + j)) = some u := hc0
  obtain ⟨A0, c0, rfl, l0, g0⟩ := hK
  exact ⟨ad, A0, c0, e, by have hq := hc 0 _ rfl; rwa [Nat.mul_one, Nat.add_zero] at hq, l0, g0⟩

/-! #### struct type 24 -/
structure S24 where
  f0 : (List Int)
  f1 : Int
  f2 : Int
def z24 : S24 := ⟨([] : List Int), (0 : Int), (0 : Int)⟩
def k24 : Kd S24 := Kd.iso (Kd.pair (Kd.slice 3 (Kd.int .i64)) (Kd.pair (Kd.int .i64) (Kd.int .i64))) (fun x : S24 => (x.f0, x.f1, x.f2))
theorem k24_heap : Kd.Heap k24 := Kd.heap_iso _ (Kd.heap_pair (Kd.heap_slice 3 (Kd.heap_int .i64)) (Kd.heap_pair (Kd.heap_int .i64) (Kd.heap_int .i64)))
theorem k24_open {w : World} {x : S24} {cs : List Value} (h : k24.K w x cs) : ∃ A0 c0, cs = [.slice A0 x.f0.length c0, .int .i64 x.f1, .int .i64 x.f2] ∧ x.f0.length ≤ c0 ∧ (Kd.int .i64).C w A0 x.f0.length x.f0 := by
  obtain ⟨_, _, rfl, ⟨A0, c0, rfl, l0, g0⟩, ⟨_, _, rfl, rfl, rfl⟩⟩ := h
  exact ⟨A0, c0, rfl, l0, g0⟩
theorem k24_openM {w : World} {base : Nat} {ok : Nat → Prop} {x : S24} {cs : List Value} (h : k24.M w base ok x cs) : ∃ v0, cs = [v0, .int .i64 x.f1, .int .i64 x.f2] ∧ (Kd.int .i64).R 3 w base ok v0 x.f0 := by
  obtain ⟨_, _, rfl, ⟨v0, rfl, g0⟩, ⟨_, _, rfl, rfl, rfl⟩⟩ := h
  exact ⟨v0, rfl, g0⟩
theorem k24_mk (w : World) (x : S24) {A0 : Option Addr} {c0 : Nat} (l0 : x.f0.length ≤ c0) (g0 : (Kd.int .i64).C w A0 x.f0.length x.f0) : k24.K w x [.slice A0 x.f0.length c0, .int .i64 x.f1, .int .i64 x.f2] := ⟨[.slice A0 x.f0.length c0], [.int .i64 x.f1, .int .i64 x.f2], rfl, ⟨A0, c0, rfl, l0, g0⟩, ⟨[.int .i64 x.f1], [.int .i64 x.f2], rfl, rfl, rfl⟩⟩
theorem k24_mkM (w : World) (base : Nat) (ok : Nat → Prop) (x : S24) {v0 : Value} (g0 : (Kd.int .i64).R 3 w base ok v0 x.f0) : k24.M w base ok x [v0, .int .i64 x.f1, .int .i64 x.f2] := ⟨[v0], [.int .i64 x.f1, .int .i64 x.f2], rfl, ⟨v0, rfl, g0⟩, ⟨[.int .i64 x.f1], [.int .i64 x.f2], rfl, rfl, rfl⟩⟩
def rd_T24 (xs : List S24) (i : Int) : S24 := xs.getD i.toNat z24
theorem at_T24 {w : World} {A : Option Addr} {n : Nat} {xs : List S24} (h : Kd.C k24 w A n xs) (i : Int) (h0 : 0 ≤ i) (h1 : i < n) : ∃ ad A0 c0, A = some ad ∧ w.cell? (ad.add (i.toNat * 3)) = some (.slice A0 (rd_T24 xs i).f0.length c0) ∧ w.cell? ⟨(ad.add (i.toNat * 3)).block, (ad.add (i.toNat * 3)).off + 1, none⟩ = some (.int .i64 (rd_T24 xs i).f1) ∧ w.cell? ⟨(ad.add (i.toNat * 3)).block, (ad.add (i.toNat * 3)).off + 2, none⟩ = some (.int .i64 (rd_T24 xs i).f2) ∧ (rd_T24 xs i).f0.length ≤ c0 ∧ (Kd.int .i64).C w A0 (rd_T24 xs i).f0.length (rd_T24 xs i).f0 := by
  obtain ⟨ad, c, e, _, hK, hc0⟩ := Kd.C_get h z24 i h0 h1
  have hc : ∀ j u, c[j]? = some u → w.cell? (ad.add (i.toNat * 3 + j)) = some u := hc0
  obtain ⟨A0, c0, rfl, l0, g0⟩ := k24_open hK
  exact ⟨ad, A0, c0, e, hc 0 _ rfl, by rw [← add_field _ _ 1 (by omega)]; exact hc 1 _ rfl, by rw [← add_field _ _ 2 (by omega)]; exact hc 2 _ rfl, l0, g0⟩

end Go.Proofs.Ytjfhcddahahdfaa.Fn
namespace Go.Proofs.Ytjfhcddahahdfaa.Fn
open Go.RowKit Go.Proofs.YtjfhcddahahdfaaW.PrintWords Go.Proofs.YtjfhcddahahdfaaW.PrintLast Go.Proofs.YtjfhcddahahdfaaW.PrintMore
attribute [local go_sem] max2_int min2_int max_two min_two max_three min_three max_four min_four   -- for this text's walks alone
set_option linter.unusedVariables false
set_option linter.unusedSimpArgs false

/-! ### spec_l1Own: function 73 -/
def spec_l1Own.f (l0 : List Int) : Option (List Int) := (some (([] : List Int) : List Int)).bind fun y192 => (if y192.length + l0.length < 17592186044416 then (some (y192 ++ l0)) else (none))
set_option maxHeartbeats 8000000 in
set_option maxRecDepth 100000 in
theorem spec_l1Own.calls (A0 : Option Addr) (c0 : Nat) (l0 : List Int) (r : List Int) (w : World) (hr0 : Kd.C (Kd.int .i64) w A0 l0.length l0) (hc0 : l0.length ≤ c0) (h : spec_l1Own.f l0 = some r) :
    Calls Try.prog 73 #[.slice A0 l0.length c0] w fun e w' => ∃ v0_ : Value, e = .returned (v0_) ∧ Kd.R (Kd.int .i64) 3 w' w.heap.size (fun _ => True) v0_ r ∧ Below w.heap.size w w' := by
  have HR0 := Aside0.mk hr0
  have HC0 := Aside0.mk hc0
  clear hr0 hc0
  have HB := Aside0.mk (Below.refl w.heap.size w)
  have H : ((some (([] : List Int) : List Int)).bind fun y192 => (if y192.length + l0.length < 17592186044416 then (some (y192 ++ l0)) else (none))) = some r := h
  clear h
  obtain ⟨y192, hy192⟩ : ∃ y_ : List Int, y_ = (([] : List Int)) := ⟨_, rfl⟩
  replace H : (if y192.length + l0.length < 17592186044416 then (some (y192 ++ l0)) else (none)) = some r := by first | (rw [hy192]; with_reducible exact H) | (have H2_ := (Option.bind_some _ _).symm.trans H; rw [hy192]; with_reducible exact H2_) | (have H2_ := (Option.bind_some _ _).symm.trans H; with_reducible exact H2_) | with_reducible exact H | (rw [hy192]; exact H) | exact H
  have Ny192 := Aside0.mk hy192
  clear hy192
  by_cases c2 : y192.length + l0.length < 17592186044416
  · rw [if_pos c2] at H
    have LMc2 := Aside0.mk c2
    clear c2
    obtain ⟨y195, hy195⟩ : ∃ y_ : List Int, y_ = (y192 ++ l0) := ⟨_, rfl⟩
    replace H : (some y195) = some r := by first | (rw [hy195]; with_reducible exact H) | (have H2_ := (Option.bind_some _ _).symm.trans H; rw [hy195]; with_reducible exact H2_) | (have H2_ := (Option.bind_some _ _).symm.trans H; with_reducible exact H2_) | with_reducible exact H | (rw [hy195]; exact H) | exact H
    have Ny195 := Aside0.mk hy195
    clear hy195
    obtain rfl := Option.some.inj H
    go_enter Try.func73, Try.ntmps73
    go_wp2_with (first | ((with_reducible refine gate_dst (N := 3) rfl ?_); refine Kd.R_lit (Kd.int .i64) _ 3 ?hg (N := 3) ?hd (xs := ([] : List Int)) (inner := []) (ok := fun _ => True) (okp := fun _ => True) ?hr ?hp (fun _ hk => hk) trivial (Below.refl _ _) (Nat.le_refl _) (by simp) ?_; (case hd => rfl); (case hg => rfl); (case hr => first | (go_simp; done) | (go_simp; rfl)); (case hp => exact (Reps.none _ _)); intro v193 w3 ho4 hb hg_ hnew_; clear hg_ hnew_; (first | rw [← Ny192.out] at ho4 | (simp only [Int.reduceToNat] at ho4; rw [← Ny192.out] at ho4)); have n0_ := Aside0.mk (Kd.R_lower ho4 (below_size (by repeat (first | (with_reducible first | exact HB.out | apply below_alloc | apply pw_below_drewN | apply below_drew1) | exact HB.out)))); have n1_ := Aside0.mk (below_step (by repeat (first | (with_reducible first | exact HB.out | apply below_alloc | apply pw_below_drewN | apply below_drew1) | exact HB.out)) hb); clear HB; have HO194 := n0_; have HB := n1_; clear n0_ n1_; clear hb ho4) | ((with_reducible refine gate_builtin (b := .append) (xs := #[.tmp 3, .tmp 4]) rfl ?_); at_builtin; refine Kd.R_append_rows (Kd.int .i64) (w0 := w) w.heap.size rfl (.tmp 3) (.tmp 4) 22 3 (.int .i64 0) 8 rfl Try.underlying22 info3 rfl (by decide) (by omega) v193 y192 l0 _ _ _ (fun _ => True) (fun _ => False) rfl rfl ?aO ?aR (fun _ _ h => h) (fun _ h => h.elim) ?aF ?aB ?aS ?aL ?_; (case aR => repeat (first | exact (Kd.C_below HR0.out HB.out) | (with_reducible refine Kd.C_alloc ?_ _) | (with_reducible refine Kd.C_drewN ?_ _) | (with_reducible refine Kd.C_drew ?_))); (case aB => exact (by repeat (first | (with_reducible first | exact HB.out | apply below_alloc | apply pw_below_drewN | apply below_drew1) | exact HB.out))); (case aF => exact (fun _ _ => trivial)); (case aO => exact (by (with_reducible repeat (first | apply Kd.R_alloc | apply Kd.R_drewN | apply Kd.R_drew)); exact HO194.out)); (case aS => exact (below_size (by repeat (first | (with_reducible first | exact HB.out | apply below_alloc | apply pw_below_drewN | apply below_drew1) | exact HB.out)))); (case aL => have := LMc2.out; omega); intro v196 w5 ho hb hg hat; rw [← Ny195.out] at ho; have n0_ := Aside0.mk (hb); have n1_ := Aside0.mk (ho); clear HB; clear HO194; have HB := n0_; have HO197 := n1_; clear n0_ n1_; clear ho hb hg hat))
    go_ret
    exact ⟨_, by first | rfl | (simp [errW_none, errW_some] <;> rfl) | (simp [*, errW_none, errW_some] <;> rfl), by (with_reducible repeat (first | apply Kd.R_alloc | apply Kd.R_drewN | apply Kd.R_drew)); exact HO197.out, by repeat (first | (with_reducible first | exact HB.out | apply below_alloc | apply pw_below_drewN | apply below_drew1) | exact HB.out)⟩
  · rw [if_neg c2] at H
    exact absurd H (by simp)


end Go.Proofs.Ytjfhcddahahdfaa.Fn
namespace Go.Proofs.Ytjfhcddahahdfaa.Fn
open Go.RowKit Go.Proofs.YtjfhcddahahdfaaW.PrintWords Go.Proofs.YtjfhcddahahdfaaW.PrintLast Go.Proofs.YtjfhcddahahdfaaW.PrintMore
attribute [local go_sem] max2_int min2_int max_two min_two max_three min_three max_four min_four   -- for this text's walks alone
set_option linter.unusedVariables false
set_option linter.unusedSimpArgs false

/-! ### slices_Index_int_int: function 88 -/
def slices_Index_int_int.l0 : Nat → List Int → Int → Int → Int → Option (Int)
  | 0, _, _, _, _ => none
  | k + 1, x0, x1, x7, x8 => if x8 < x7 then (if 0 ≤ x8 then (if x8 < (x0.length : Int) then (if x1 = (rd x0 x8) then (some x8) else (slices_Index_int_int.l0 k x0 x1 x7 (wrap64 (x8 + 1)))) else (none)) else (none)) else (some (-1))
def slices_Index_int_int.f (k : Nat) (l0 : List Int) (a1 : Int) : Option (Int) := slices_Index_int_int.l0 k l0 a1 (l0.length : Int) 0
theorem slices_Index_int_int.mono_l : ∀ k, (∀ y0 y1 y2 y3, LeO (slices_Index_int_int.l0 k y0 y1 y2 y3) (slices_Index_int_int.l0 (k + 1) y0 y1 y2 y3))
  | 0 => fun _ _ _ _ r h => by simp [slices_Index_int_int.l0] at h
  | k + 1 => by
    have ih0 := slices_Index_int_int.mono_l k
    · intro y0 y1 y2 y3
      unfold slices_Index_int_int.l0
      repeat' first
      | (with_reducible exact ih0 _ _ _ _)
      | (with_reducible exact LeO.refl _)
      | (with_reducible exact LeO.none _)
      | (with_reducible refine LeO.ite ?_ ?_)
      | (with_reducible refine LeO.bind ?_ (fun _ => ?_))
      | exact ih0 _ _ _ _
      | exact LeO.none _
      | refine LeO.ite ?_ ?_
      | refine LeO.bind ?_ (fun _ => ?_)
theorem slices_Index_int_int.mono : ∀ a0 a1 k, LeO (slices_Index_int_int.f k a0 a1) (slices_Index_int_int.f (k + 1) a0 a1) := by
  intro a0 a1 k
  have ih0 := slices_Index_int_int.mono_l k
  unfold slices_Index_int_int.f
  repeat' first
      | (with_reducible exact ih0 _ _ _ _)
      | (with_reducible exact LeO.refl _)
      | (with_reducible exact LeO.none _)
      | (with_reducible refine LeO.ite ?_ ?_)
      | (with_reducible refine LeO.bind ?_ (fun _ => ?_))
      | exact ih0 _ _ _ _
      | exact LeO.none _
      | refine LeO.ite ?_ ?_
      | refine LeO.bind ?_ (fun _ => ?_)
set_option maxHeartbeats 8000000 in
set_option maxRecDepth 100000 in
theorem slices_Index_int_int.calls (k : Nat) (A0 : Option Addr) (c0 : Nat) (l0 : List Int) (a1 : Int) (r : Int) (w : World) (hr0 : Kd.C (Kd.int .i64) w A0 l0.length l0) (hc0 : l0.length ≤ c0) (h : slices_Index_int_int.f k l0 a1 = some r) :
    Calls Try.prog 88 #[.slice A0 l0.length c0, .int .i64 a1] w fun e w' => e = .returned (.int .i64 r) ∧ Drawn0 w w' := by
  have HR0 := Aside0.mk hr0
  have HC0 := Aside0.mk hc0
  clear hr0 hc0
  have H : (slices_Index_int_int.l0 k l0 a1 (l0.length : Int) 0) = some r := h
  clear h
  have H' := Aside0.mk H
  clear H
  go_enter Try.func88, Try.ntmps88
  go_wp2
  go_loopg [8] k (fun kq v8 w' => ∃ (x8_1 : Int), v8 = .int .i64 x8_1 ∧ Aside0 (slices_Index_int_int.l0 kq l0 a1 (l0.length : Int) x8_1 = some r) ∧ Aside0 (kq ≤ k) ∧ Drawn0 w w')
  case atStart => exact ⟨(0), (by first | rfl | (simp; done) | (simp [*]; done)), H', ⟨Nat.le_refl _⟩, by repeat (first | exact Drawn0.refl _ | apply Drawn0.step)⟩
  case round =>
    clear H'
    try clear p2
    obtain ⟨x8_1, rfl, HA, HK1, ⟨m1, rfl⟩⟩ := hrel
    cases gk with
    | zero => exact absurd HA.out (by simp [slices_Index_int_int.l0])
    | succ k1 =>
      have H := HA.out
      clear HA
      simp only [slices_Index_int_int.l0] at H
      by_cases c3 : x8_1 < (l0.length : Int)
      · rw [if_pos c3] at H
        have c3b0 : decide (x8_1 < (l0.length : Int)) = true := decide_eq_true c3
        clear c3
        by_cases c4 : 0 ≤ x8_1
        · rw [if_pos c4] at H
          have c4b0 : decide (0 ≤ x8_1) = true := decide_eq_true c4
          clear c4
          by_cases c5 : x8_1 < (l0.length : Int)
          · rw [if_pos c5] at H
            have c5b0 : decide (x8_1 < (l0.length : Int)) = true := decide_eq_true c5
            clear c5
            by_cases c6 : a1 = (rd l0 x8_1)
            · rw [if_pos c6] at H
              have c6b0 : (a1 == (rd l0 x8_1)) = true := beq_iff_eq.mpr c6
              have c6b1 : (a1 != (rd l0 x8_1)) = false := bne_eq_false_iff_eq.mpr c6
              clear c6
              obtain rfl := Option.some.inj H
              have p464 : 0 ≤ (x8_1 : Int) := of_decide_eq_true (by first | (with_reducible assumption) | assumption)
              have q464 : x8_1 < (l0.length : Int) := of_decide_eq_true (by first | (with_reducible assumption) | assumption)
              obtain ⟨ad464, e464, hx464_0⟩ := Kd.at_int HR0.out x8_1 p464 q464
              cases e464
              replace p464 := eq_true p464
              replace q464 := eq_true q464
              go_wp2
              go_ret
              exact ⟨by first | rfl | (simp; done) | (simp [*]; done), by repeat (first | exact Drawn0.refl _ | apply Drawn0.step)⟩
            · rw [if_neg c6] at H
              have c6b0 : (a1 == (rd l0 x8_1)) = false := beq_eq_false_iff_ne.mpr c6
              have c6b1 : (a1 != (rd l0 x8_1)) = true := bne_iff_ne.mpr c6
              have H' := Aside0.mk H
              clear H
              have p464 : 0 ≤ (x8_1 : Int) := of_decide_eq_true (by first | (with_reducible assumption) | assumption)
              have q464 : x8_1 < (l0.length : Int) := of_decide_eq_true (by first | (with_reducible assumption) | assumption)
              obtain ⟨ad464, e464, hx464_0⟩ := Kd.at_int HR0.out x8_1 p464 q464
              cases e464
              replace p464 := eq_true p464
              replace q464 := eq_true q464
              go_wp2
              go_roundg k1
              case measure => have := HK1.out; omega
              case rel => exact ⟨(wrap64 (x8_1 + 1)), (by first | rfl | (simp; done) | (simp [*]; done)), H', ⟨by have := HK1.out; omega⟩, by repeat (first | exact Drawn0.refl _ | apply Drawn0.step)⟩
          · rw [if_neg c5] at H
            exact absurd H (by simp)
        · rw [if_neg c4] at H
          exact absurd H (by simp)
      · rw [if_neg c3] at H
        have c3b0 : decide (x8_1 < (l0.length : Int)) = false := decide_eq_false c3
        clear c3
        obtain rfl := Option.some.inj H
        go_wp2
        go_ret
        exact ⟨by first | rfl | (simp; done) | (simp [*]; done), by repeat (first | exact Drawn0.refl _ | apply Drawn0.step)⟩

noncomputable def slices_Index_int_int.L0 (x0 : List Int) (x1 : Int) (x7 : Int) (x8 : Int) : Option (Int) := lim fun k => slices_Index_int_int.l0 k x0 x1 x7 x8
theorem slices_Index_int_int.L0_lim (x0 : List Int) (x1 : Int) (x7 : Int) (x8 : Int) : Lim (fun k => slices_Index_int_int.l0 k x0 x1 x7 x8) (slices_Index_int_int.L0 x0 x1 x7 x8) := Lim.of fun k => (slices_Index_int_int.mono_l k) x0 x1 x7 x8
noncomputable def slices_Index_int_int.F (l0 : List Int) (a1 : Int) : Option (Int) := lim fun k => slices_Index_int_int.f k l0 a1
theorem slices_Index_int_int.F_lim (l0 : List Int) (a1 : Int) : Lim (fun k => slices_Index_int_int.f k l0 a1) (slices_Index_int_int.F l0 a1) := Lim.of fun k => slices_Index_int_int.mono l0 a1 k
theorem slices_Index_int_int.L0_eq (x0 : List Int) (x1 : Int) (x7 : Int) (x8 : Int) : slices_Index_int_int.L0 x0 x1 x7 x8 = (if x8 < x7 then (if 0 ≤ x8 then (if x8 < (x0.length : Int) then (if x1 = (rd x0 x8) then (some x8) else (slices_Index_int_int.L0 x0 x1 x7 (wrap64 (x8 + 1)))) else (none)) else (none)) else (some (-1))) :=
  Lim.step (f := fun k => (if x8 < x7 then (if 0 ≤ x8 then (if x8 < (x0.length : Int) then (if x1 = (rd x0 x8) then (some x8) else (slices_Index_int_int.l0 k x0 x1 x7 (wrap64 (x8 + 1)))) else (none)) else (none)) else (some (-1)))) (slices_Index_int_int.L0_lim x0 x1 x7 x8) (fun k => by first | rfl | rw [slices_Index_int_int.l0]) (by
    repeat' first
    | (with_reducible exact Lim.const _)
    | (with_reducible exact slices_Index_int_int.L0_lim _ _ _ _)
    | (with_reducible refine Lim.ite ?_ ?_)
    | (with_reducible refine Lim.bind ?_ (fun _ => ?_)))
theorem slices_Index_int_int.F_eq (l0 : List Int) (a1 : Int) : slices_Index_int_int.F l0 a1 = (slices_Index_int_int.L0 l0 a1 (l0.length : Int) 0) :=
  Lim.unique (slices_Index_int_int.F_lim l0 a1) (by
    unfold slices_Index_int_int.f
    repeat' first
    | (with_reducible exact Lim.const _)
    | (with_reducible exact slices_Index_int_int.L0_lim _ _ _ _)
    | (with_reducible refine Lim.ite ?_ ?_)
    | (with_reducible refine Lim.bind ?_ (fun _ => ?_)))

end Go.Proofs.Ytjfhcddahahdfaa.Fn
namespace Go.Proofs.Ytjfhcddahahdfaa.Fn
open Go.RowKit Go.Proofs.YtjfhcddahahdfaaW.PrintWords Go.Proofs.YtjfhcddahahdfaaW.PrintLast Go.Proofs.YtjfhcddahahdfaaW.PrintMore
attribute [local go_sem] max2_int min2_int max_two min_two max_three min_three max_four min_four   -- for this text's walks alone
set_option linter.unusedVariables false
set_option linter.unusedSimpArgs false

/-! ### impl_fill: function 85 (given) -/
/-! ### the search: fill, with whatever function it calls -/
/-- The first free place; the row's length where there is none. -/
def freeAt : List Int → Nat
  | [] => 0
  | x :: l => if x = -1 then 0 else freeAt l + 1
theorem freeAt_le : ∀ l : List Int, freeAt l ≤ l.length
  | [] => Nat.le_refl _
  | x :: l => by
    have := freeAt_le l
    unfold freeAt
    split
    · simp
    · simp; omega
theorem freeAt_rd : ∀ l : List Int, freeAt l < l.length → rd l (freeAt l) = -1
  | [], h => by simp at h
  | x :: l, h => by
    unfold freeAt at h ⊢
    split
    · rename_i hx
      simp [rd, hx]
    · rename_i hx
      rw [if_neg hx] at h
      have := freeAt_rd l (by simpa using h)
      simpa [rd] using this
theorem index_free : ∀ (suf pre : List Int), (pre ++ suf).length < 4611686018427387904 → slices_Index_int_int.L0 (pre ++ suf) (-1) ((pre ++ suf).length : Int) (pre.length : Int) = some (if freeAt suf = suf.length then -1 else ((pre.length + freeAt suf : Nat) : Int))
  | [], pre, h => by
    rw [slices_Index_int_int.L0_eq, range_end]
    rfl
  | x :: suf, pre, h => by
    have e : (pre ++ [x]).length = pre.length + 1 := by simp
    rw [slices_Index_int_int.L0_eq, range_step, rd_mid, wrap_mid h, app_mid pre x suf, index_free suf (pre ++ [x]) (by simpa using h), e]
    by_cases hx : x = -1
    · rw [if_pos hx.symm]
      simp [freeAt, hx]
    · rw [if_neg (fun h => hx h.symm)]
      simp only [freeAt, if_neg hx, List.length_cons, Nat.add_right_cancel_iff]
      split
      · rfl
      · congr 2
        omega
theorem index_free_some (l : List Int) (h : l.length < 4611686018427387904) : ∃ k, slices_Index_int_int.f k l (-1) = some (if freeAt l = l.length then -1 else (freeAt l : Int)) := by
  refine Lim.rounds (slices_Index_int_int.F_lim l (-1)) ?_
  rw [slices_Index_int_int.F_eq]
  have := index_free l [] (by simpa using h)
  simpa using this
/-- The numbers that are left, from the i-th on: each that fits is put, what follows is looked for, and it is taken away again. -/
def fillLoop {σ : Type} (rec : σ → List Int → List Int → Option (σ × Bool)) (row told left : List Int) (shift : Int) : Nat → Nat → σ → Option (σ × Bool)
  | 0, _, s => some (s, false)
  | m + 1, i, s =>
    if rd left i = 0 ∨ (row.length : Int) ≤ freeAt row + rd left i + shift ∨ rd row (freeAt row + rd left i + shift) ≠ -1 ∨ (rd told (freeAt row) ≠ 0 ∧ rd told (freeAt row) ≠ rd left i) ∨ (rd told (freeAt row + rd left i + shift) ≠ 0 ∧ rd told (freeAt row + rd left i + shift) ≠ rd left i) then fillLoop rec row told left shift m (i + 1) s
    else (rec s ((row.set (freeAt row) (rd left i)).set (freeAt row + rd left i + shift).toNat (rd left i)) (left.set i 0)).bind fun p => if p.2 = true then some (p.1, true) else fillLoop rec row told left shift m (i + 1) p.1
def fillF {σ : Type} (each : σ → List Int → Option (σ × Bool)) (told : List Int) (shift : Int) : Nat → σ → List Int → List Int → Option (σ × Bool)
  | 0, _, _, _ => none
  | k + 1, s, row, left => if freeAt row = row.length then each s row else fillLoop (fillF each told shift k) row told left shift left.length 0 s
/-- What fill asks of the function that it calls: its state stands whatever happens at the blocks X; a call leaves X and all that is older than base as it is. -/
structure EachOk {σ : Type} (base : Nat) (X : Nat → Prop) (fid : FuncId) (caps : Array Value) (each : σ → List Int → Option (σ × Bool)) (I : σ → World → Prop) : Prop where
  fn : ∃ fn, Try.prog.funcs[fid]? = some fn ∧ (fn.name == "runtime.NumGoroutine") = false ∧ fn.body.isSome = true
  stable : ∀ s w w', I s w → w.heap.size ≤ w'.heap.size → (∀ k, k < w.heap.size → ¬ X k → w'.heap[k]? = w.heap[k]?) → I s w'
  call : ∀ s row A c w s' b, I s w → Kd.C (Kd.int .i64) w A row.length row → row.length ≤ c → row.length ≤ 1000 → each s row = some (s', b) → Calls Try.prog fid (#[.slice A row.length c] ++ caps) w fun e w' => e = .returned (.bool b) ∧ I s' w' ∧ Below base w w' ∧ (∀ k, X k → w'.heap[k]? = w.heap[k]?)
section
variable {P : Program} {ops : Array Oper} {Q : Exit → Act → World → Prop}
/-- A call of a function value that lies in a place. -/
theorem goesV_ {rest : List Oper} {oi : Oper} {a : Act} {w : World} (N : Option Tmp) (hd : oi.dst = N) (hg : oi.guard = none) {f : FuncId} {fn : Func} {p : Tmp} {xs : Array Operand} {ts : Array TypeId} {caps : Array Value} (hf : P.funcs[f]? = some fn) (hname : (fn.name == "runtime.NumGoroutine") = false) (hb : fn.body.isSome = true) (args : Array Value)
    (hop : oi.op = .call { callee := .value (.tmp p), args := xs, argTypes := ts }) (hv : a.eval (.tmp p) = .func (.func f) #[] caps) (hargs : xs.map a.eval = args)
    (h : Calls P f (args ++ caps) w fun e w' => ∃ v, e = .returned v ∧ wpList P ops Q rest (a.put N v) w') : wpList P ops Q (oi :: rest) a w := by
  refine wpList_plain hg fun K hK => ?_
  have he := enters_ hf hname hb (args ++ caps) w
  have hrun : (execOp a.eval oi).run P w = .ok (.enter f (args ++ caps)) w := by
    unfold execOp
    simp [hop, resolve, Deferred.ofValue, invoke, hv, hargs, he]
  unfold Oper.wp
  rw [hrun, Oper.upon_enter]
  refine h.mono fun e w'' hh => ?_
  obtain ⟨v, rfl, hk⟩ := hh
  subst hd
  exact hK _ _ hk
theorem gate_value {o : Oper} {rest : List Oper} {a : Act} {W : World} {p : Tmp} {xs : Array Operand} {ts : Array TypeId} (_ho : o.op = .call { callee := .value (.tmp p), args := xs, argTypes := ts }) (h : wpList P ops Q (o :: rest) a W) : wpList P ops Q (o :: rest) a W := h
end
/-- A block of whole numbers. -/
def IB (w : World) (g : Nat) (l : List Int) : Prop := w.heap[g]? = some (.cells (l.map (Value.int .i64)).toArray 3 (0, 0))
theorem IB.cell {w : World} {g : Nat} {l : List Int} (h : IB w g l) (j : Nat) (hj : j < l.length) : w.cell? ⟨g, j, none⟩ = some (.int .i64 (rd l j)) := by
  rw [blk_cell h j]
  simp [rd, hj]
theorem IB.cellI {w : World} {g : Nat} {l : List Int} (h : IB w g l) (j : Int) (h0 : 0 ≤ j) (hj : j < l.length) : w.cell? ⟨g, j.toNat, none⟩ = some (.int .i64 (rd l j)) := by
  have := h.cell j.toNat (by omega)
  rw [Int.toNat_of_nonneg h0] at this
  exact this
theorem IB.set {w W : World} {g : Nat} {l : List Int} (h : IB w g l) (j : Nat) (v : Int) (hw : W = w.setCell ⟨g, j, none⟩ (.int .i64 v)) : IB W g (l.set j v) := by
  subst hw
  refine blk_put h j _ ?_
  simp [List.map_set]
theorem IB.far {w W : World} {g g' : Nat} {l : List Int} (h : IB w g l) (hne : g ≠ g') (j : Nat) (v : Value) (hw : W = w.setCell ⟨g', j, none⟩ v) : IB W g l := by
  subst hw
  exact blk_far h (by simpa using hne) v
theorem add_block0 (g j : Nat) : (Addr.add ⟨g, 0, none⟩ j) = ⟨g, j, none⟩ := by
  unfold Addr.add
  split
  · rename_i h
    rw [h]
  · simp
theorem add_block (ad : Addr) (j : Nat) : (ad.add j).block = ad.block := by
  unfold Addr.add
  split <;> rfl
theorem IB.C {w : World} {g : Nat} {l : List Int} (h : IB w g l) (hl : l.length ≤ 1000) : Kd.C (Kd.int .i64) w (some ⟨g, 0, none⟩) l.length l := by
  refine Kd.C_of_reads (d := (0 : Int)) (h1 := fun _ => rfl) ⟨rfl, by omega, fun _ => ⟨_, rfl, fun j hj => ?_⟩⟩
  have := h.cell j hj
  simp only [rd, Int.toNat_natCast] at this
  rw [add_block0]
  exact this
/-- Cells that lie in a block that stays. -/
theorem told_same {w W : World} {ad : Addr} {l : List Int} (h : ∀ j, j < l.length → w.cell? (ad.add j) = some (.int .i64 (rd l j))) (hk : W.heap[ad.block]? = w.heap[ad.block]?) : ∀ j, j < l.length → W.cell? (ad.add j) = some (.int .i64 (rd l j)) := by
  intro j hj
  rw [← h j hj]
  simp only [World.cell?, add_block, hk]
/-- Whether a number is passed over. -/
def passed (row told : List Int) (a : Nat) (n t : Int) : Prop := n = 0 ∨ (row.length : Int) ≤ t ∨ rd row t ≠ -1 ∨ (rd told a ≠ 0 ∧ rd told a ≠ n) ∨ (rd told t ≠ 0 ∧ rd told t ≠ n)
theorem fillLoop_pass {σ : Type} {rec : σ → List Int → List Int → Option (σ × Bool)} {row told left : List Int} {shift : Int} {m i a : Nat} {s : σ} {n t : Int} (ha : freeAt row = a) (hn : rd left i = n) (ht : (a : Int) + n + shift = t) (h : passed row told a n t) : fillLoop rec row told left shift (m + 1) i s = fillLoop rec row told left shift m (i + 1) s := by
  subst ha
  subst hn
  subst ht
  exact if_pos h
theorem fillLoop_put {σ : Type} {rec : σ → List Int → List Int → Option (σ × Bool)} {row told left : List Int} {shift : Int} {m i a : Nat} {s : σ} {n t : Int} (ha : freeAt row = a) (hn : rd left i = n) (ht : (a : Int) + n + shift = t) (h : ¬ passed row told a n t) : fillLoop rec row told left shift (m + 1) i s = (rec s ((row.set a n).set t.toNat n) (left.set i 0)).bind fun p => if p.2 = true then some (p.1, true) else fillLoop rec row told left shift m (i + 1) p.1 := by
  subst ha
  subst hn
  subst ht
  exact if_neg h
theorem set_back {l : List Int} {a : Nat} {t : Int} {n v : Int} (ha : a < l.length) (ht0 : 0 ≤ t) (ht : t < l.length) (h1 : rd l a = v) (h2 : rd l t = v) : ((((l.set a n).set t.toNat n).set a v).set t.toNat v) = l := by
  apply List.ext_getElem?
  intro j
  simp only [rd] at h1 h2
  simp only [List.getElem?_set, List.length_set]
  have e1 : l[t.toNat]? = some v := by
    rw [← h2, List.getD_eq_getElem?_getD, List.getElem?_eq_getElem (by omega)]
    rfl
  have e2 : l[a]? = some v := by
    rw [← h1, List.getD_eq_getElem?_getD, Int.toNat_natCast, List.getElem?_eq_getElem (by omega)]
    rfl
  by_cases hj : t.toNat = j
  · subst hj
    rw [if_pos rfl, if_pos (by omega), e1]
  · rw [if_neg hj]
    by_cases hj2 : a = j
    · subst hj2
      rw [if_pos rfl, if_pos (by omega), e2]
    · rw [if_neg hj2, if_neg hj, if_neg hj2]
theorem set_back1 {l : List Int} {i : Nat} {n v : Int} (hi : i < l.length) (h : rd l i = n) : (l.set i v).set i n = l := by
  apply List.ext_getElem?
  intro j
  simp only [rd] at h
  simp only [List.getElem?_set, List.length_set]
  by_cases hj : i = j
  · subst hj
    rw [if_pos rfl, if_pos hi, ← h, List.getD_eq_getElem?_getD, Int.toNat_natCast, List.getElem?_eq_getElem hi]
    rfl
  · rw [if_neg hj, if_neg hj]
/-- Two rows that a call writes, and what stays. -/
structure At2 (base gr gl : Nat) (W w : World) (r l : List Int) : Prop where
  row : IB w gr r
  left : IB w gl l
  other : ∀ k, k ≠ gr → k ≠ gl → w.heap[k]? = W.heap[k]?
  size : w.heap.size = W.heap.size
  below : Below base W w
theorem size_setCell (w : World) (a : Addr) (v : Value) : (w.setCell a v).heap.size = w.heap.size := by
  simp [World.setCell]
theorem At2.putR {base gr gl : Nat} {W w w' : World} {r l : List Int} (h : At2 base gr gl W w r l) (hne : gr ≠ gl) (hb : base ≤ gr) (j : Nat) (v : Int) (hw : w' = w.setCell ⟨gr, j, none⟩ (.int .i64 v)) : At2 base gr gl W w' (r.set j v) l :=
  ⟨h.row.set j v hw, h.left.far (Ne.symm hne) j _ hw, fun k h1 h2 => by subst hw; exact (Below.heap_setCell w _ _ k h1).trans (h.other k h1 h2), by subst hw; rw [size_setCell]; exact h.size, by subst hw; exact h.below.setCell hb _⟩
theorem At2.putL {base gr gl : Nat} {W w w' : World} {r l : List Int} (h : At2 base gr gl W w r l) (hne : gr ≠ gl) (hb : base ≤ gl) (j : Nat) (v : Int) (hw : w' = w.setCell ⟨gl, j, none⟩ (.int .i64 v)) : At2 base gr gl W w' r (l.set j v) :=
  ⟨h.row.far hne j _ hw, h.left.set j v hw, fun k h1 h2 => by subst hw; exact (Below.heap_setCell w _ _ k h2).trans (h.other k h1 h2), by subst hw; rw [size_setCell]; exact h.size, by subst hw; exact h.below.setCell hb _⟩
theorem At2.refl {gr gl : Nat} {w : World} {r l : List Int} (base : Nat) (hr : IB w gr r) (hl : IB w gl l) : At2 base gr gl w w r l := ⟨hr, hl, fun _ _ _ => rfl, rfl, Below.refl _ _⟩
/-- Behind a number that was put and taken away again all is as before but the state. -/
theorem fill_end {σ : Type} {base : Nat} {X : Nat → Prop} {fid : FuncId} {caps : Array Value} {each : σ → List Int → Option (σ × Bool)} {I : σ → World → Prop} {gr gl : Nat} {w W0 w5 w8 w11 : World} {s2 : σ} {row left row1 left1 row2 left2 : List Int} (hI : I s2 w8) (hB : Below base w5 w8) (hX : ∀ k, X k → w8.heap[k]? = w5.heap[k]?) (E : EachOk base X fid caps each I)
    (a2 : At2 base gr gl W0 W0 row left) (a5 : At2 base gr gl W0 w5 row1 left1) (a11 : At2 base gr gl w8 w11 row2 left2) (hB2 : Below base w W0) (hX2 : ∀ k, X k → W0.heap[k]? = w.heap[k]?) (hXr : X gr) (hXl : X gl) (er : row2 = row) (el : left2 = left) : I s2 w11 ∧ Below base w w11 ∧ (∀ k, X k → w11.heap[k]? = w.heap[k]?) := by
  subst er
  subst el
  refine ⟨E.stable _ _ _ hI (by rw [a11.size]; exact Nat.le_refl _) (fun k _ hk => a11.other k (fun e => hk (e ▸ hXr)) (fun e => hk (e ▸ hXl))), hB2.trans (a5.below.trans (hB.trans a11.below)), fun k hk => ?_⟩
  by_cases e1 : k = gr
  · subst e1
    exact a11.row.trans (a2.row.symm.trans (hX2 _ hk))
  · by_cases e2 : k = gl
    · subst e2
      exact a11.left.trans (a2.left.symm.trans (hX2 _ hk))
    · exact (a11.other k e1 e2).trans ((hX k hk).trans ((a5.other k e1 e2).trans (hX2 k hk)))
set_option maxHeartbeats 16000000 in
set_option maxRecDepth 100000 in
theorem fill_calls {σ : Type} {base : Nat} {X : Nat → Prop} {fid : FuncId} {caps : Array Value} {each : σ → List Int → Option (σ × Bool)} {I : σ → World → Prop} (E : EachOk base X fid caps each I) (told : List Int) (ad : Addr) (ct : Nat) (shift : Int) (hs : 0 ≤ shift ∧ shift ≤ 1) (gr gl : Nat) (hXr : X gr) (hXl : X gl) (hne : gr ≠ gl) (hbr : base ≤ gr) (hbl : base ≤ gl) (htr : ad.block ≠ gr) (htl : ad.block ≠ gl) (htk : ad.block < base ∨ X ad.block) :
    ∀ (k : Nat) (s s' : σ) (b : Bool) (row left : List Int) (w : World), row.length = told.length → row.length ≤ 1000 → left.length ≤ 1000 → (∀ x ∈ left, 0 ≤ x ∧ x ≤ 1000) → I s w → IB w gr row → IB w gl left → (∀ j, j < told.length → w.cell? (ad.add j) = some (.int .i64 (rd told j))) → fillF each told shift k s row left = some (s', b) →
    Calls Try.prog 85 #[.slice (some ⟨gr, 0, none⟩) row.length row.length, .slice (some ad) told.length ct, .slice (some ⟨gl, 0, none⟩) left.length left.length, .int .i64 shift, .func (.func fid) #[] caps] w fun e w' => e = .returned (.bool b) ∧ I s' w' ∧ Below base w w' ∧ (∀ k, X k → w'.heap[k]? = w.heap[k]?) := by
  have HXr := Aside0.mk hXr
  have HXl := Aside0.mk hXl
  have HNE := Aside0.mk hne
  have HBR := Aside0.mk hbr
  have HBL := Aside0.mk hbl
  have HTR := Aside0.mk htr
  have HTL := Aside0.mk htl
  have HTK := Aside0.mk htk
  have HS := Aside0.mk hs
  clear hXr hXl hne hbr hbl htr htl htk hs
  obtain ⟨fn, hf1, hf2, hf3⟩ := E.fn
  have HF1 := Aside0.mk hf1
  have HF2 := Aside0.mk hf2
  have HF3 := Aside0.mk hf3
  clear hf1 hf2 hf3
  intro k
  induction k with
  | zero =>
    intro s s' b row left w _ _ _ _ _ _ _ _ h
    cases h
  | succ k ih =>
    intro s s' b row left w hlt hlr hll hlm hI hR hL hT h
    have IH := Aside0.mk ih
    have HLT := Aside0.mk hlt
    have HLR := Aside0.mk hlr
    have HLL := Aside0.mk hll
    have HLM := Aside0.mk hlm
    have HI := Aside0.mk hI
    have HR := Aside0.mk hR
    have HL := Aside0.mk hL
    have HT := Aside0.mk hT
    obtain ⟨ki, hki⟩ := index_free_some row (by omega)
    by_cases hfr : freeAt row = row.length
    · rw [if_pos hfr] at hki
      have HKI := Aside0.mk hki
      have H := Aside0.mk (show each s row = some (s', b) by rw [← h]; exact (if_pos hfr).symm)
      clear ih hlt hlr hll hlm hI hR hL hT h hki hfr
      go_enter Try.func85, Try.ntmps85
      go_wp2_with (first | ((with_reducible refine gate_callee (f := 88) rfl ?_); refine goesL_ (some 17) rfl rfl Try.func88 (by kernel_rfl) rfl #[.slice (some ⟨gr, 0, none⟩) row.length row.length, .int .i64 (-1)] rfl (by (try simp only [List.map_toArray, List.map_cons, List.map_nil]); first | done | rfl) ?_; (with_reducible refine (slices_Index_int_int.calls ki _ _ row (-1) (-1) _ ?side1 ?side2 HKI.out).mono ?_); (case side1 => exact HR.out.C HLR.out); (case side2 => exact Nat.le_refl _); rintro e w1 ⟨rfl, ⟨nd, rfl⟩⟩; refine ⟨_, rfl, ?_⟩) | ((with_reducible refine gate_value (p := 20) rfl ?_); refine goesV_ (some 22) rfl rfl HF1.out HF2.out HF3.out #[.slice (some ⟨gr, 0, none⟩) row.length row.length] rfl (by first | rfl | (simp [Act.eval]; done) | (simp [Act.eval]; rfl)) (by (try simp only [List.map_toArray, List.map_cons, List.map_nil]); first | done | rfl) ?_; (refine (E.call s row _ _ _ s' b ?side1 ?side2 ?side3 ?side4 H.out).mono ?_); (case side1 => exact E.stable _ _ _ HI.out (Nat.le_refl _) (fun _ _ _ => rfl)); (case side2 => exact HR.out.C HLR.out); (case side3 => exact Nat.le_refl _); (case side4 => exact HLR.out); rintro e w2 ⟨rfl, hI2, hB2, hX2⟩; refine ⟨_, rfl, ?_⟩; have HI2 := Aside0.mk hI2; have HB2 := Aside0.mk hB2; have HX2 := Aside0.mk hX2; clear hI2 hB2 hX2))
      go_ret
      exact ⟨rfl, HI2.out, (pw_below_drewN (Below.refl _ _) nd).trans HB2.out, HX2.out⟩
    · rw [if_neg hfr] at hki
      have hfa : freeAt row < row.length := by have := freeAt_le row; omega
      have H := Aside0.mk (show fillLoop (fillF each told shift k) row told left shift left.length 0 s = some (s', b) by rw [← h]; exact (if_neg hfr).symm)
      obtain ⟨a, ha⟩ : ∃ a, freeAt row = a := ⟨_, rfl⟩
      rw [ha] at hki hfa
      have HKI := Aside0.mk hki
      have HA := Aside0.mk ha
      have HFA := Aside0.mk hfa
      have HF := Aside0.mk (show rd row a = -1 by rw [← ha]; exact freeAt_rd row (by omega))
      have ha0 : decide ((a : Int) < 0) = false := decide_eq_false (by omega)
      clear ih hlt hlr hll hlm hI hR hL hT h hki hfr ha hfa
      go_enter Try.func85, Try.ntmps85
      go_wp2_with (first | ((with_reducible refine gate_callee (f := 88) rfl ?_); refine goesL_ (some 17) rfl rfl Try.func88 (by kernel_rfl) rfl #[.slice (some ⟨gr, 0, none⟩) row.length row.length, .int .i64 (-1)] rfl (by (try simp only [List.map_toArray, List.map_cons, List.map_nil]); first | done | rfl) ?_; (with_reducible refine (slices_Index_int_int.calls ki _ _ row (-1) (a : Int) _ ?side1 ?side2 HKI.out).mono ?_); (case side1 => exact HR.out.C HLR.out); (case side2 => exact Nat.le_refl _); rintro e w1 ⟨rfl, ⟨nd, rfl⟩⟩; refine ⟨_, rfl, ?_⟩))
      go_loopw [25] (fun v wr => ∃ (i : Nat) (s1 : σ), i ≤ left.length ∧ v = .int .i64 i ∧ Aside0 (I s1 wr) ∧ Aside0 (Below base w wr) ∧ Aside0 (∀ k, X k → wr.heap[k]? = w.heap[k]?) ∧ Aside0 (fillLoop (fillF each told shift k) row told left shift (left.length - i) i s1 = some (s', b))) (fun v _ => left.length - (intOf v).toNat)
      case atStart => exact ⟨0, s, Nat.zero_le _, rfl, ⟨E.stable _ _ _ HI.out (Nat.le_refl _) (fun _ _ _ => rfl)⟩, ⟨pw_below_drewN (Below.refl _ _) _⟩, ⟨fun _ _ => rfl⟩, ⟨by rw [Nat.sub_zero]; exact H.out⟩⟩
      case round =>
        obtain ⟨i, s1, hi, rfl, HI1, HB1, HX1, H1⟩ := hrel
        by_cases hlt : i < left.length
        · have hR1 : IB wr gr row := (HX1.out gr HXr.out).trans HR.out
          have hL1 : IB wr gl left := (HX1.out gl HXl.out).trans HL.out
          have hT1 := told_same (W := wr) HT.out (HTK.out.elim (fun h => HB1.out.block _ h) (fun h => HX1.out _ h))
          obtain ⟨m, hm⟩ : ∃ m, left.length - i = m + 1 := ⟨left.length - i - 1, by omega⟩
          have hm2 : left.length - (i + 1) = m := by omega
          have h1 := H1.out
          rw [hm] at h1
          obtain ⟨n, hn⟩ : ∃ n, rd left i = n := ⟨_, rfl⟩
          have hn01 : 0 ≤ n ∧ n ≤ 1000 := by
            rw [← hn, rd_nat left i hlt]
            exact HLM.out _ (List.getElem_mem hlt)
          have hci : wr.cell? ⟨gl, i, none⟩ = some (.int .i64 n) := by rw [← hn]; exact hL1.cell i hlt
          obtain ⟨t, ht⟩ : ∃ t : Int, (a : Int) + n + shift = t := ⟨_, rfl⟩
          have hfa := HFA.out
          have hs := HS.out
          have hlr := HLR.out
          have hw1 : wrap64 (wrap64 ((a : Int) + n) + shift) = t := by rw [wrap_in (n := (a : Int) + n) (by omega) (by omega), wrap_in (by omega) (by omega), ht]
          have hw2 : IntKind.i64.wrap (IntKind.i64.wrap ((a : Int) + n) + shift) = t := by rw [i64_w, i64_w]; exact hw1
          have HT0 := Aside0.mk (show 0 ≤ t by omega)
          have HN := Aside0.mk hn
          have HN01 := Aside0.mk hn01
          have HTT := Aside0.mk ht
          have HM := Aside0.mk hm
          have HM2 := Aside0.mk hm2
          have HH := Aside0.mk h1
          have HR1 := Aside0.mk hR1
          have HL1 := Aside0.mk hL1
          have HT1 := Aside0.mk hT1
          have HLT1 := Aside0.mk hlt
          have hlt0 : decide ((i : Int) < (left.length : Int)) = true := decide_eq_true (by omega)
          have p0 : (0 ≤ (i : Int)) = True := eq_true (by omega)
          have q0 : ((i : Int) < (left.length : Int)) = True := eq_true (by omega)
          have HI0 := Aside0.mk hi
          have HWI := Aside0.mk (show wrap64 ((i : Int) + 1) = ((i + 1 : Nat) : Int) by have := HLL.out; rw [wrap_in (by omega) (by omega)]; rfl)
          clear H1 hn hn01 ht hm hm2 h1 hR1 hL1 hT1 hfa hs hlr
          go_upto_region 8 with (fail)
          rw [hw1]
          clear hw1 hw2
          go_cut [79] (fun v79 wc => ∃ x : Bool, v79 = .bool x ∧ Aside0 (Drawn0 wr wc) ∧ Aside0 (x = true ↔ passed row told a n t))
          case first =>
            by_cases c1 : n = 0
            · have b1 : (n == 0) = true := beq_iff_eq.mpr c1
              have HP := Aside0.mk (show passed row told a n t from .inl c1)
              clear c1
              go_wp2
              go_meet
              case rel => exact ⟨true, rfl, ⟨by first | exact Drawn0.refl _ | exact ⟨_, rfl⟩⟩, ⟨⟨fun _ => HP.out, fun _ => rfl⟩⟩⟩
            have b1 : (n == 0) = false := beq_eq_false_iff_ne.mpr c1
            have C1 := Aside0.mk c1
            clear c1
            by_cases c2 : (row.length : Int) ≤ t
            · have b2 : decide ((row.length : Int) ≤ t) = true := decide_eq_true c2
              have HP := Aside0.mk (show passed row told a n t from .inr (.inl c2))
              clear c2
              go_wp2
              go_meet
              case rel => exact ⟨true, rfl, ⟨by first | exact Drawn0.refl _ | exact ⟨_, rfl⟩⟩, ⟨⟨fun _ => HP.out, fun _ => rfl⟩⟩⟩
            have b2 : decide ((row.length : Int) ≤ t) = false := decide_eq_false c2
            have C2 := Aside0.mk c2
            clear c2
            have hcr := HR1.out.cellI t HT0.out (by have := C2.out; omega)
            have p1 : (0 ≤ t) = True := eq_true HT0.out
            have q1 : (t < (row.length : Int)) = True := eq_true (by have := C2.out; omega)
            obtain ⟨u, hu⟩ : ∃ u, rd row t = u := ⟨_, rfl⟩
            rw [hu] at hcr
            have HU := Aside0.mk hu
            clear hu
            by_cases c3 : u = -1
            rotate_left
            · have b3 : (u != -1) = true := bne_iff_ne.mpr c3
              have HP := Aside0.mk (show passed row told a n t from .inr (.inr (.inl (by rw [HU.out]; exact c3))))
              clear c3
              go_wp2
              go_meet
              case rel => exact ⟨true, rfl, ⟨by first | exact Drawn0.refl _ | exact ⟨_, rfl⟩⟩, ⟨⟨fun _ => HP.out, fun _ => rfl⟩⟩⟩
            have b3 : (u != -1) = false := bne_eq_false_iff_eq.mpr c3
            have C3 := Aside0.mk c3
            clear c3
            have hca := HT1.out a (by have := HFA.out; have := HLT.out; omega)
            have hct := HT1.out t.toNat (by have := C2.out; have := HLT.out; have := HT0.out; omega)
            rw [Int.toNat_of_nonneg HT0.out] at hct
            have p2 : (0 ≤ (a : Int)) = True := eq_true (by omega)
            have q2 : ((a : Int) < (told.length : Int)) = True := eq_true (by have := HFA.out; have := HLT.out; omega)
            have q3 : (t < (told.length : Int)) = True := eq_true (by have := C2.out; have := HLT.out; omega)
            obtain ⟨ya, hya⟩ : ∃ u, rd told a = u := ⟨_, rfl⟩
            obtain ⟨yt, hyt⟩ : ∃ u, rd told t = u := ⟨_, rfl⟩
            rw [hya] at hca
            rw [hyt] at hct
            have HYA := Aside0.mk hya
            have HYT := Aside0.mk hyt
            clear hya hyt
            by_cases c4 : ya ≠ 0 ∧ ya ≠ n
            · have b4 : (ya != 0) = true := bne_iff_ne.mpr c4.1
              have b5 : (ya != n) = true := bne_iff_ne.mpr c4.2
              have HP := Aside0.mk (show passed row told a n t from .inr (.inr (.inr (.inl (by rw [HYA.out]; exact c4)))))
              clear c4
              go_wp2
              go_meet
              case rel => exact ⟨true, rfl, ⟨by first | exact Drawn0.refl _ | exact ⟨_, rfl⟩⟩, ⟨⟨fun _ => HP.out, fun _ => rfl⟩⟩⟩
            have C4 := Aside0.mk c4
            by_cases c5 : yt ≠ 0 ∧ yt ≠ n
            · have b6 : (yt != 0) = true := bne_iff_ne.mpr c5.1
              have b7 : (yt != n) = true := bne_iff_ne.mpr c5.2
              have HP := Aside0.mk (show passed row told a n t from .inr (.inr (.inr (.inr (by rw [HYT.out]; exact c5)))))
              clear c5
              by_cases c6 : ya = 0
              · have b4 : (ya != 0) = false := bne_eq_false_iff_eq.mpr c6
                clear c6 c4
                go_wp2
                go_meet
                case rel => exact ⟨true, rfl, ⟨by first | exact Drawn0.refl _ | exact ⟨_, rfl⟩⟩, ⟨⟨fun _ => HP.out, fun _ => rfl⟩⟩⟩
              · have b4 : (ya != 0) = true := bne_iff_ne.mpr c6
                have b5 : (ya != n) = false := bne_eq_false_iff_eq.mpr (Classical.byContradiction fun h => c4 ⟨c6, h⟩)
                clear c6 c4
                go_wp2
                go_meet
                case rel => exact ⟨true, rfl, ⟨by first | exact Drawn0.refl _ | exact ⟨_, rfl⟩⟩, ⟨⟨fun _ => HP.out, fun _ => rfl⟩⟩⟩
            have C5 := Aside0.mk c5
            have HP := Aside0.mk (show ¬ passed row told a n t from fun h => by
              rcases h with h | h | h | h | h
              · exact C1.out h
              · exact C2.out h
              · rw [HU.out] at h; exact h C3.out
              · rw [HYA.out] at h; exact C4.out h
              · rw [HYT.out] at h; exact C5.out h)
            by_cases c6 : ya = 0
            · have b4 : (ya != 0) = false := bne_eq_false_iff_eq.mpr c6
              by_cases c7 : yt = 0
              · have b6 : (yt != 0) = false := bne_eq_false_iff_eq.mpr c7
                clear c6 c7 c4 c5
                go_wp2
                go_meet
                case rel => exact ⟨false, rfl, ⟨by first | exact Drawn0.refl _ | exact ⟨_, rfl⟩⟩, ⟨⟨fun h => by simp at h, fun h => absurd h HP.out⟩⟩⟩
              · have b6 : (yt != 0) = true := bne_iff_ne.mpr c7
                have b7 : (yt != n) = false := bne_eq_false_iff_eq.mpr (Classical.byContradiction fun h => c5 ⟨c7, h⟩)
                clear c6 c7 c4 c5
                go_wp2
                go_meet
                case rel => exact ⟨false, rfl, ⟨by first | exact Drawn0.refl _ | exact ⟨_, rfl⟩⟩, ⟨⟨fun h => by simp at h, fun h => absurd h HP.out⟩⟩⟩
            · have b4 : (ya != 0) = true := bne_iff_ne.mpr c6
              have b5 : (ya != n) = false := bne_eq_false_iff_eq.mpr (Classical.byContradiction fun h => c4 ⟨c6, h⟩)
              by_cases c7 : yt = 0
              · have b6 : (yt != 0) = false := bne_eq_false_iff_eq.mpr c7
                clear c6 c7 c4 c5
                go_wp2
                go_meet
                case rel => exact ⟨false, rfl, ⟨by first | exact Drawn0.refl _ | exact ⟨_, rfl⟩⟩, ⟨⟨fun h => by simp at h, fun h => absurd h HP.out⟩⟩⟩
              · have b6 : (yt != 0) = true := bne_iff_ne.mpr c7
                have b7 : (yt != n) = false := bne_eq_false_iff_eq.mpr (Classical.byContradiction fun h => c5 ⟨c7, h⟩)
                clear c6 c7 c4 c5
                go_wp2
                go_meet
                case rel => exact ⟨false, rfl, ⟨by first | exact Drawn0.refl _ | exact ⟨_, rfl⟩⟩, ⟨⟨fun h => by simp at h, fun h => absurd h HP.out⟩⟩⟩
          case rest =>
            obtain ⟨x, rfl, HDC, HPX⟩ := hcut
            obtain ⟨⟨ndc, rfl⟩⟩ := HDC
            cases x with
            | true =>
              have h2 := (fillLoop_pass (rec := fillF each told shift k) (m := m) (s := s1) HA.out HN.out HTT.out (HPX.out.1 rfl)).symm.trans HH.out
              have HH2 := Aside0.mk (show fillLoop (fillF each told shift k) row told left shift (left.length - (i + 1)) (i + 1) s1 = some (s', b) by rw [HM2.out]; exact h2)
              clear h2
              go_wp2
              go_roundw
              case rel => exact ⟨i + 1, s1, HLT1.out, congrArg (Value.int .i64) HWI.out, ⟨E.stable _ _ _ HI1.out (Nat.le_refl _) (fun _ _ _ => rfl)⟩, ⟨HB1.out.trans (pw_below_drewN (Below.refl _ _) _)⟩, ⟨fun k hk => HX1.out k hk⟩, HH2⟩
              case measure => have := HLT1.out; rw [HWI.out]; simp [intOf]; omega
            | false =>
              have hnp : ¬ passed row told a n t := fun h => by simpa using HPX.out.2 h
              have h2 := (fillLoop_put (rec := fillF each told shift k) (m := m) (s := s1) HA.out HN.out HTT.out hnp).symm.trans HH.out
              have htl : t < (row.length : Int) := by
                rcases Int.lt_or_le t row.length with h | h
                · exact h
                · exact absurd (Or.inr (Or.inl h)) hnp
              have hrt : rd row t = -1 := Classical.byContradiction fun h => hnp (.inr (.inr (.inl h)))
              have HRT := Aside0.mk hrt
              have HTL1 := Aside0.mk htl
              clear hnp hrt
              obtain ⟨⟨s2, d⟩, hrec, h3⟩ := Option.bind_eq_some_iff.1 h2
              have HREC := Aside0.mk hrec
              have H3 := Aside0.mk h3
              clear h2 h3 hrec
              have p1 : (0 ≤ t) = True := eq_true HT0.out
              have q1 : (t < (row.length : Int)) = True := eq_true htl
              have p2 : (0 ≤ (a : Int)) = True := eq_true (by omega)
              have q2 : ((a : Int) < (row.length : Int)) = True := eq_true (by have := HFA.out; omega)
              clear htl
              have A2 := Aside0.mk (At2.refl (w := wr.drewN ndc) base HR1.out HL1.out)
              have HI2 := Aside0.mk (show I s1 (wr.drewN ndc) from E.stable _ _ _ HI1.out (Nat.le_refl _) (fun _ _ _ => rfl))
              have HB2 := Aside0.mk (show Below base w (wr.drewN ndc) from HB1.out.trans (pw_below_drewN (Below.refl _ _) _))
              have HX2 := Aside0.mk (show ∀ k, X k → (wr.drewN ndc).heap[k]? = w.heap[k]? from HX1.out)
              have HT2 := Aside0.mk (show ∀ j, j < told.length → (wr.drewN ndc).cell? (ad.add j) = some (.int .i64 (rd told j)) from HT1.out)
              generalize wr.drewN ndc = W0 at A2 HI2 HB2 HX2 HT2 ⊢
              have hc1 := A2.out.row.cell a HFA.out
              have hf1 := blk_frozen A2.out.row a
              have HCALL := Aside0.mk (show ∀ w7, At2 base gr gl W0 w7 ((row.set a n).set t.toNat n) (left.set i 0) → Calls Try.prog 85 #[.slice (some ⟨gr, 0, none⟩) row.length row.length, .slice (some ad) told.length ct, .slice (some ⟨gl, 0, none⟩) left.length left.length, .int .i64 shift, .func (.func fid) #[] caps] w7 fun e w' => e = .returned (.bool d) ∧ I s2 w' ∧ Below base w7 w' ∧ (∀ k, X k → w'.heap[k]? = w7.heap[k]?) from fun w7 h7 => by
                have h8 := IH.out s1 s2 d ((row.set a n).set t.toNat n) (left.set i 0) w7 (by simpa using HLT.out) (by simpa using HLR.out) (by simpa using HLL.out) (fun x hx => (List.mem_or_eq_of_mem_set hx).elim (HLM.out x) (fun e => by omega)) (E.stable _ _ _ HI2.out (by rw [h7.size]; exact Nat.le_refl _) (fun k _ hk => h7.other k (fun e => hk (e ▸ HXr.out)) (fun e => hk (e ▸ HXl.out)))) h7.row h7.left (told_same HT2.out (h7.other _ HTR.out HTL.out)) HREC.out
                rw [List.length_set, List.length_set, List.length_set] at h8
                exact h8)
              cases d with
              | true =>
                have h4 : s2 = s' ∧ true = b := by simpa using H3.out
                obtain ⟨rfl, rfl⟩ := h4
                clear H3
                go_wp2_with (first | ((with_reducible refine gate_store (t := 3) (p := 86) rfl ?_); refine store_event (t := 3) (p := 86) (v := ?voa) (w1 := (W0.setCell ⟨gr, a, none⟩ (.int .i64 n))) ?hg ?ho ?hn ?hr ?_; (case ho => rfl); (case hg => rfl); (case hn => rfl); (case hr => first | (go_simp; done) | (go_simp; rfl)); intro w3 hw3; have A3 := Aside0.mk (A2.out.putR HNE.out HBR.out a n hw3); clear hw3; have hc2 := A3.out.row.cellI t HT0.out (by have := HTL1.out; rw [List.length_set]; exact this); have hf2 := blk_frozen A3.out.row t.toNat) | ((with_reducible refine gate_store (t := 3) (p := 87) rfl ?_); refine store_event (t := 3) (p := 87) (v := ?vob) (w1 := (w3.setCell ⟨gr, t.toNat, none⟩ (.int .i64 n))) ?hg ?ho ?hn ?hr ?_; (case ho => rfl); (case hg => rfl); (case hn => rfl); (case hr => first | (go_simp; done) | (go_simp; rfl)); intro w4 hw4; have A4 := Aside0.mk (A3.out.putR HNE.out HBR.out t.toNat n hw4); clear hw4; have hc3 := A4.out.left.cell i HLT1.out; have hf3 := blk_frozen A4.out.left i) | ((with_reducible refine gate_store (t := 3) (p := 90) rfl ?_); refine store_event (t := 3) (p := 90) (v := ?voc) (w1 := (w4.setCell ⟨gl, i, none⟩ (.int .i64 0))) ?hg ?ho ?hn ?hr ?_; (case ho => rfl); (case hg => rfl); (case hn => rfl); (case hr => first | (go_simp; done) | (go_simp; rfl)); intro w5 hw5; have A5 := Aside0.mk (A4.out.putL HNE.out HBL.out i 0 hw5); clear hw5) | ((with_reducible refine gate_callee (f := 85) rfl ?_); refine goesL_ (some 96) rfl rfl Try.func85 (by kernel_rfl) rfl #[.slice (some ⟨gr, 0, none⟩) row.length row.length, .slice (some ad) told.length ct, .slice (some ⟨gl, 0, none⟩) left.length left.length, .int .i64 shift, .func (.func fid) #[] caps] rfl (by (try simp only [List.map_toArray, List.map_cons, List.map_nil]); first | done | rfl) ?_; refine (HCALL.out w5 A5.out).mono ?_; rintro e w8 ⟨rfl, hI8, hB8, hX8⟩; refine ⟨_, rfl, ?_⟩; have HI8 := Aside0.mk hI8; have HB8 := Aside0.mk hB8; have HX8 := Aside0.mk hX8; clear hI8 hB8 hX8; have A8 := Aside0.mk (At2.refl base (show IB w8 gr _ from (HX8.out gr HXr.out).trans A5.out.row) (show IB w8 gl _ from (HX8.out gl HXl.out).trans A5.out.left)); have hc4 := A8.out.left.cell i (by rw [List.length_set]; exact HLT1.out); have hf4 := blk_frozen A8.out.left i) | ((with_reducible refine gate_store (t := 3) (p := 100) rfl ?_); refine store_event (t := 3) (p := 100) (v := ?vod) (w1 := (w8.setCell ⟨gl, i, none⟩ (.int .i64 n))) ?hg ?ho ?hn ?hr ?_; (case ho => rfl); (case hg => rfl); (case hn => rfl); (case hr => first | (go_simp; done) | (go_simp; rfl)); intro w9 hw9; have A9 := Aside0.mk (A8.out.putL HNE.out HBL.out i n hw9); clear hw9; have hc5 := A9.out.row.cell a (by rw [List.length_set, List.length_set]; exact HFA.out); have hf5 := blk_frozen A9.out.row a) | ((with_reducible refine gate_store (t := 3) (p := 105) rfl ?_); refine store_event (t := 3) (p := 105) (v := ?voe) (w1 := (w9.setCell ⟨gr, a, none⟩ (.int .i64 (-1)))) ?hg ?ho ?hn ?hr ?_; (case ho => rfl); (case hg => rfl); (case hn => rfl); (case hr => first | (go_simp; done) | (go_simp; rfl)); intro w10 hw10; have A10 := Aside0.mk (A9.out.putR HNE.out HBR.out a (-1) hw10); clear hw10; have hc6 := A10.out.row.cellI t HT0.out (by have := HTL1.out; rw [List.length_set, List.length_set, List.length_set]; exact this); have hf6 := blk_frozen A10.out.row t.toNat) | ((with_reducible refine gate_store (t := 3) (p := 106) rfl ?_); refine store_event (t := 3) (p := 106) (v := ?vof) (w1 := (w10.setCell ⟨gr, t.toNat, none⟩ (.int .i64 (-1)))) ?hg ?ho ?hn ?hr ?_; (case ho => rfl); (case hg => rfl); (case hn => rfl); (case hr => first | (go_simp; done) | (go_simp; rfl)); intro w11 hw11; have A11 := Aside0.mk (A10.out.putR HNE.out HBR.out t.toNat (-1) hw11); clear hw11))
                go_ret
                exact ⟨rfl, fill_end HI8.out HB8.out HX8.out E A2.out A5.out A11.out HB2.out HX2.out HXr.out HXl.out (set_back HFA.out HT0.out HTL1.out HF.out HRT.out) (set_back1 HLT1.out HN.out)⟩
              | false =>
                have HH2 := Aside0.mk (show fillLoop (fillF each told shift k) row told left shift (left.length - (i + 1)) (i + 1) s2 = some (s', b) by rw [HM2.out]; simpa using H3.out)
                clear H3
                go_wp2_with (first | ((with_reducible refine gate_store (t := 3) (p := 86) rfl ?_); refine store_event (t := 3) (p := 86) (v := ?voa) (w1 := (W0.setCell ⟨gr, a, none⟩ (.int .i64 n))) ?hg ?ho ?hn ?hr ?_; (case ho => rfl); (case hg => rfl); (case hn => rfl); (case hr => first | (go_simp; done) | (go_simp; rfl)); intro w3 hw3; have A3 := Aside0.mk (A2.out.putR HNE.out HBR.out a n hw3); clear hw3; have hc2 := A3.out.row.cellI t HT0.out (by have := HTL1.out; rw [List.length_set]; exact this); have hf2 := blk_frozen A3.out.row t.toNat) | ((with_reducible refine gate_store (t := 3) (p := 87) rfl ?_); refine store_event (t := 3) (p := 87) (v := ?vob) (w1 := (w3.setCell ⟨gr, t.toNat, none⟩ (.int .i64 n))) ?hg ?ho ?hn ?hr ?_; (case ho => rfl); (case hg => rfl); (case hn => rfl); (case hr => first | (go_simp; done) | (go_simp; rfl)); intro w4 hw4; have A4 := Aside0.mk (A3.out.putR HNE.out HBR.out t.toNat n hw4); clear hw4; have hc3 := A4.out.left.cell i HLT1.out; have hf3 := blk_frozen A4.out.left i) | ((with_reducible refine gate_store (t := 3) (p := 90) rfl ?_); refine store_event (t := 3) (p := 90) (v := ?voc) (w1 := (w4.setCell ⟨gl, i, none⟩ (.int .i64 0))) ?hg ?ho ?hn ?hr ?_; (case ho => rfl); (case hg => rfl); (case hn => rfl); (case hr => first | (go_simp; done) | (go_simp; rfl)); intro w5 hw5; have A5 := Aside0.mk (A4.out.putL HNE.out HBL.out i 0 hw5); clear hw5) | ((with_reducible refine gate_callee (f := 85) rfl ?_); refine goesL_ (some 96) rfl rfl Try.func85 (by kernel_rfl) rfl #[.slice (some ⟨gr, 0, none⟩) row.length row.length, .slice (some ad) told.length ct, .slice (some ⟨gl, 0, none⟩) left.length left.length, .int .i64 shift, .func (.func fid) #[] caps] rfl (by (try simp only [List.map_toArray, List.map_cons, List.map_nil]); first | done | rfl) ?_; refine (HCALL.out w5 A5.out).mono ?_; rintro e w8 ⟨rfl, hI8, hB8, hX8⟩; refine ⟨_, rfl, ?_⟩; have HI8 := Aside0.mk hI8; have HB8 := Aside0.mk hB8; have HX8 := Aside0.mk hX8; clear hI8 hB8 hX8; have A8 := Aside0.mk (At2.refl base (show IB w8 gr _ from (HX8.out gr HXr.out).trans A5.out.row) (show IB w8 gl _ from (HX8.out gl HXl.out).trans A5.out.left)); have hc4 := A8.out.left.cell i (by rw [List.length_set]; exact HLT1.out); have hf4 := blk_frozen A8.out.left i) | ((with_reducible refine gate_store (t := 3) (p := 100) rfl ?_); refine store_event (t := 3) (p := 100) (v := ?vod) (w1 := (w8.setCell ⟨gl, i, none⟩ (.int .i64 n))) ?hg ?ho ?hn ?hr ?_; (case ho => rfl); (case hg => rfl); (case hn => rfl); (case hr => first | (go_simp; done) | (go_simp; rfl)); intro w9 hw9; have A9 := Aside0.mk (A8.out.putL HNE.out HBL.out i n hw9); clear hw9; have hc5 := A9.out.row.cell a (by rw [List.length_set, List.length_set]; exact HFA.out); have hf5 := blk_frozen A9.out.row a) | ((with_reducible refine gate_store (t := 3) (p := 105) rfl ?_); refine store_event (t := 3) (p := 105) (v := ?voe) (w1 := (w9.setCell ⟨gr, a, none⟩ (.int .i64 (-1)))) ?hg ?ho ?hn ?hr ?_; (case ho => rfl); (case hg => rfl); (case hn => rfl); (case hr => first | (go_simp; done) | (go_simp; rfl)); intro w10 hw10; have A10 := Aside0.mk (A9.out.putR HNE.out HBR.out a (-1) hw10); clear hw10; have hc6 := A10.out.row.cellI t HT0.out (by have := HTL1.out; rw [List.length_set, List.length_set, List.length_set]; exact this); have hf6 := blk_frozen A10.out.row t.toNat) | ((with_reducible refine gate_store (t := 3) (p := 106) rfl ?_); refine store_event (t := 3) (p := 106) (v := ?vof) (w1 := (w10.setCell ⟨gr, t.toNat, none⟩ (.int .i64 (-1)))) ?hg ?ho ?hn ?hr ?_; (case ho => rfl); (case hg => rfl); (case hn => rfl); (case hr => first | (go_simp; done) | (go_simp; rfl)); intro w11 hw11; have A11 := Aside0.mk (A10.out.putR HNE.out HBR.out t.toNat (-1) hw11); clear hw11))
                go_roundw
                case rel =>
                  have R := fill_end HI8.out HB8.out HX8.out E A2.out A5.out A11.out HB2.out HX2.out HXr.out HXl.out (set_back HFA.out HT0.out HTL1.out HF.out HRT.out) (set_back1 HLT1.out HN.out)
                  exact ⟨i + 1, s2, HLT1.out, congrArg (Value.int .i64) HWI.out, ⟨R.1⟩, ⟨R.2.1⟩, ⟨R.2.2⟩, HH2⟩
                case measure => have := HLT1.out; rw [HWI.out]; simp [intOf]; omega
        · obtain rfl : i = left.length := by omega
          have h2 : s1 = s' ∧ false = b := by simpa [fillLoop] using H1.out
          obtain ⟨rfl, rfl⟩ := h2
          clear H1
          go_wp2
          go_ret
          exact ⟨rfl, HI1.out, HB1.out, HX1.out⟩


end Go.Proofs.Ytjfhcddahahdfaa.Fn
namespace Go.Proofs.Ytjfhcddahahdfaa.Fn
open Go.RowKit Go.Proofs.YtjfhcddahahdfaaW.PrintWords Go.Proofs.YtjfhcddahahdfaaW.PrintLast Go.Proofs.YtjfhcddahahdfaaW.PrintMore
attribute [local go_sem] max2_int min2_int max_two min_two max_three min_three max_four min_four   -- for this text's walks alone
set_option linter.unusedVariables false
set_option linter.unusedSimpArgs false

/-! ### spec_pzLook: function 84 (given) -/
/-- The first place that holds 0; the row's length where there is none. -/
def zeroAt : List Int → Nat
  | [] => 0
  | x :: l => if x = 0 then 0 else zeroAt l + 1
theorem zeroAt_le : ∀ l : List Int, zeroAt l ≤ l.length
  | [] => Nat.le_refl _
  | x :: l => by
    have := zeroAt_le l
    unfold zeroAt
    split
    · simp
    · simp; omega
theorem zeroAt_is : ∀ (l : List Int) (a : Nat), a ≤ l.length → (∀ j : Nat, j < a → rd l j ≠ 0) → (a < l.length → rd l a = 0) → zeroAt l = a
  | [], a, h, _, _ => by
    simp at h
    simp [zeroAt, h]
  | x :: l, 0, _, _, h => by
    have := h (by simp)
    simp [rd] at this
    simp [zeroAt, this]
  | x :: l, a + 1, h, h1, h2 => by
    have hx := h1 0 (by omega)
    simp [rd] at hx
    have ih := zeroAt_is l a (by simpa using h) (fun j hj => by
      have := h1 (j + 1) (by omega)
      simpa [rd] using this) (fun ha => by
      have := h2 (by simpa using ha)
      simpa [rd] using this)
    simp [zeroAt, hx, ih]
abbrev pzPassed (row : List Int) (used : Nat) (n t : Int) : Prop := used.testBit n.toNat = true ∨ (row.length : Int) ≤ t ∨ rd row t ≠ 0
abbrev pzWrong (prow : List Int) (a : Nat) (n t : Int) : Prop := (rd prow a ≠ 0 ∧ rd prow a ≠ n) ∨ (rd prow t ≠ 0 ∧ rd prow t ≠ n)
def pzLoop (rec : List (List Int) → List Int → Nat → Option (List (List Int))) (prow row : List Int) (shift : Int) (used : Nat) (a : Nat) : Nat → Int → List (List Int) → Option (List (List Int))
  | 0, _, xs => some xs
  | m + 1, n, xs => if pzPassed row used n ((a : Int) + n + shift) ∨ pzWrong prow a n ((a : Int) + n + shift) then pzLoop rec prow row shift used a m (n + 1) xs
    else (rec xs ((row.set a n).set ((a : Int) + n + shift).toNat n) (used ||| 2 ^ n.toNat)).bind fun xs' => pzLoop rec prow row shift used a m (n + 1) xs'
def pzF (prow : List Int) (from_ shift : Int) : Nat → List (List Int) → List Int → Nat → Option (List (List Int))
  | 0, _, _, _ => none
  | k + 1, xs, row, used => if 300 < xs.length then some xs else if zeroAt row = row.length then some (xs ++ [row]) else pzLoop (pzF prow from_ shift k) prow row shift used (zeroAt row) (row.length / 2) from_ xs
theorem bit_int (u n : Nat) : ((u : Int) / 2 ^ n).tmod 2 = if u.testBit n = true then 1 else 0 := by
  have e : ((u : Int) / 2 ^ n) = ((u / 2 ^ n : Nat) : Int) := by simp
  have e2 : (2 : Int) = ((2 : Nat) : Int) := rfl
  rw [e, e2, ← Int.ofNat_tmod, Nat.testBit_eq_decide_div_mod_eq]
  have := Nat.mod_two_eq_zero_or_one (u / 2 ^ n)
  rcases this with h | h <;> simp [h]
theorem pzLoop_pass {rec : List (List Int) → List Int → Nat → Option (List (List Int))} {prow row : List Int} {shift n t : Int} {used a q : Nat} {xs : List (List Int)} (ht : (a : Int) + n + shift = t) (h : pzPassed row used n t ∨ pzWrong prow a n t) : pzLoop rec prow row shift used a (q + 1) n xs = pzLoop rec prow row shift used a q (n + 1) xs := by
  subst ht
  exact if_pos h
theorem pzLoop_put {rec : List (List Int) → List Int → Nat → Option (List (List Int))} {prow row : List Int} {shift n t : Int} {used a q : Nat} {xs : List (List Int)} (ht : (a : Int) + n + shift = t) (h : ¬ (pzPassed row used n t ∨ pzWrong prow a n t)) : pzLoop rec prow row shift used a (q + 1) n xs = (rec xs ((row.set a n).set t.toNat n) (used ||| 2 ^ n.toNat)).bind fun xs' => pzLoop rec prow row shift used a q (n + 1) xs' := by
  subst ht
  exact if_neg h
/-- What lies in the variable of the rows that were found. -/
structure OutI (base bo : Nat) (X : Nat → Prop) (xs : List (List Int)) (w : World) : Prop where
  out : ∃ v, w.heap[bo]? = some (.cells #[v] 50 (0, 0)) ∧ Kd.S (Kd.slice 3 (Kd.int .i64)) 22 w base (fun k => ¬ X k) v xs
  ge : base ≤ bo
  no : ¬ X bo
  lt : ∀ k, X k → k < w.heap.size
theorem OutI.step {base bo : Nat} {X : Nat → Prop} {xs : List (List Int)} {w w' : World} (h : OutI base bo X xs w) (hb : Below w.heap.size w w') (Y : Nat → Prop) (hY : ∀ k, Y k → w.heap.size ≤ k ∧ k < w'.heap.size) : OutI base bo (fun k => X k ∨ Y k) xs w' := by
  obtain ⟨⟨v, h1, h2⟩, h3, h4, h5⟩ := h
  refine ⟨⟨v, blk_below h1 hb, Kd.S_mono (Kd.S_below (Kd.S_bound h2) hb) (fun k hk hx => ?_)⟩, h3, fun hx => ?_, fun k hx => ?_⟩
  · rcases hx with hx | hx
    · exact hk.1 hx
    · have := hk.2.2.1
      have := (hY k hx).1
      omega
  · rcases hx with hx | hx
    · exact h4 hx
    · have := blk_lt h1
      have := (hY bo hx).1
      omega
  · rcases hx with hx | hx
    · have := h5 k hx
      have := hb.size
      omega
    · exact (hY k hx).2
theorem OutI.stable {base bo : Nat} {X : Nat → Prop} {xs : List (List Int)} {w w' : World} (h : OutI base bo X xs w) (hs : w.heap.size ≤ w'.heap.size) (hk : ∀ k, k < w.heap.size → ¬ X k → w'.heap[k]? = w.heap[k]?) : OutI base bo X xs w' := by
  obtain ⟨⟨v, h1, h2⟩, h3, h4, h5⟩ := h
  exact ⟨⟨v, (hk bo (blk_lt h1) h4).trans h1, Kd.S_step h2 (fun k ho hl => hk k hl ho)⟩, h3, h4, fun k hx => Nat.lt_of_lt_of_le (h5 k hx) hs⟩
theorem or_bit {u m : Nat} (hu : u < 2 ^ 60) (hm : m < 60) : bits BinOp.or IntKind.i64 (u : Int) (wrap64 (2 ^ m)) = ((u ||| 2 ^ m : Nat) : Int) := by
  have hp : 2 ^ m < 2 ^ 60 := Nat.pow_lt_pow_right (by decide) hm
  have e : wrap64 ((2 : Int) ^ m) = ((2 ^ m : Nat) : Int) := by
    have h2 : (2 : Int) ^ m = ((2 ^ m : Nat) : Int) := by simp
    rw [h2]
    generalize 2 ^ m = q at hp
    exact wrap_in (by omega) (by omega)
  rw [e]
  exact (bits_nat .i64 60 (by decide) (fun n h0 h1 => by rw [IntKind.wrap_i64]; omega) u (2 ^ m) hu hp).2
theorem OutI.weaken {base bo : Nat} {X Y : Nat → Prop} {xs : List (List Int)} {w : World} (h : OutI base bo Y xs w) (hs : ∀ k, X k → Y k) : OutI base bo X xs w := by
  obtain ⟨⟨v, h1, h2⟩, h3, h4, h5⟩ := h
  exact ⟨⟨v, h1, Kd.S_mono h2 (fun k hk hx => hk (hs k hx))⟩, h3, fun hx => h4 (hs _ hx), fun k hx => h5 k (hs k hx)⟩
theorem cells_C {w : World} {ad : Addr} {l : List Int} (h : ∀ j, j < l.length → w.cell? (ad.add j) = some (.int .i64 (rd l j))) (hl : l.length ≤ 1000) : Kd.C (Kd.int .i64) w (some ad) l.length l := by
  refine Kd.C_of_reads (d := (0 : Int)) (h1 := fun _ => rfl) ⟨rfl, by omega, fun _ => ⟨_, rfl, fun j hj => ?_⟩⟩
  have := h j hj
  simpa only [rd, Int.toNat_natCast] using this
set_option maxHeartbeats 16000000 in
set_option maxRecDepth 100000 in
theorem pzLook_call {base bo : Nat} (prow : List Int) (pd : Addr) (pc : Nat) (from_ shift : Int) (hfr : 1 ≤ from_ ∧ from_ ≤ 20) (hs : 0 ≤ shift ∧ shift ≤ 1) (hpd : pd.block < base) :
    ∀ (k : Nat) (X : Nat → Prop) (xs xs' : List (List Int)) (row : List Int) (used : Nat) (ad : Addr) (c : Nat) (w : World), base ≤ w.heap.size → row.length = prow.length → 0 < row.length → row.length ≤ 40 → used < 2 ^ 60 → X ad.block → (∀ j, j < row.length → w.cell? (ad.add j) = some (.int .i64 (rd row j))) → (∀ j, j < prow.length → w.cell? (pd.add j) = some (.int .i64 (rd prow j))) → row.length ≤ c → OutI base bo X xs w → pzF prow from_ shift k xs row used = some xs' →
    Calls Try.prog 84 #[.agg #[.slice (some pd) prow.length pc, .int .i64 from_, .int .i64 shift], .slice (some ad) row.length c, .int .i64 (used : Int), .pointer (some ⟨bo, 0, none⟩)] w fun e w' => e = .returned (.tuple #[]) ∧ OutI base bo X xs' w' ∧ Below base w w' ∧ (∀ k, X k → w'.heap[k]? = w.heap[k]?) := by
  have hu := Try.underlying27
  have HFR := Aside0.mk hfr
  have HS := Aside0.mk hs
  have HPD := Aside0.mk hpd
  clear hfr hs hpd
  intro k
  induction k with
  | zero =>
    intro X xs xs' row used ad c w _ _ _ _ _ _ _ _ _ _ h
    cases h
  | succ k ih =>
    intro X xs xs' row used ad c w hb hlt hr0 hr1 hus hXa hC hP hc hI h
    have IH := Aside0.mk ih
    have HB0 := Aside0.mk hb
    have HLT := Aside0.mk hlt
    have HR0 := Aside0.mk hr0
    have HR1 := Aside0.mk hr1
    have HUS := Aside0.mk hus
    have HXA := Aside0.mk hXa
    have HC := Aside0.mk hC
    have HP := Aside0.mk hP
    have HCC := Aside0.mk hc
    have HI := Aside0.mk hI
    have H := Aside0.mk h
    clear ih hb hlt hr0 hr1 hus hXa hC hP hc hI h
    go_enter Try.func84, Try.ntmps84
    go_upto_region 1 with (fail)
    have HBX := Aside0.mk (show (w.alloc (.cells #[.slice (some pd) prow.length pc, .int .i64 from_, .int .i64 shift] 27)).heap[w.heap.size]? = some (.cells #[.slice (some pd) prow.length pc, .int .i64 from_, .int .i64 shift] 27 (0, 0)) from heap_alloc_new _ _)
    have hb1 : Below w.heap.size w (w.alloc (.cells #[.slice (some pd) prow.length pc, .int .i64 from_, .int .i64 shift] 27)) := below_alloc (Below.refl _ _) _
    have HB1 := Aside0.mk hb1
    have HI1 := Aside0.mk (HI.out.step hb1 (fun k => k = w.heap.size) (fun k hk => ⟨by omega, by rw [hk]; exact blk_lt HBX.out⟩))
    have HK1 := Aside0.mk (show ∀ k, X k → (w.alloc (.cells #[.slice (some pd) prow.length pc, .int .i64 from_, .int .i64 shift] 27)).heap[k]? = w.heap[k]? from fun k hk => hb1.block k (HI.out.lt k hk))
    clear hb1
    generalize hbs : w.heap.size = bs at HBX HI1 HB1 ⊢
    generalize (w.alloc (.cells #[.slice (some pd) prow.length pc, .int .i64 from_, .int .i64 shift] 27)) = w1 at HBX HB1 HI1 HK1 ⊢
    have HBS := Aside0.mk hbs
    clear hbs
    have HC1 := Aside0.mk (told_same HC.out (HK1.out _ HXA.out))
    have HP1 := Aside0.mk (told_same HP.out (HB1.out.block _ (by have := HPD.out; have := HB0.out; have := HBS.out; omega)))
    obtain ⟨v, ho, hS⟩ := HI1.out.out
    obtain ⟨A3, c3, e3⟩ := Kd.S_slice hS
    subst e3
    have HO := Aside0.mk ho
    have HS3 := Aside0.mk hS
    have hc1 := cell_of_one ho
    have HBW := Aside0.mk (show Below base w w1 by rw [← HBS.out] at HB1; exact HB1.out.mono HB0.out)
    clear ho hS
    by_cases hmany : 300 < xs.length
    · have h2 : xs = xs' := by
        have := H.out
        rw [pzF, if_pos hmany] at this
        exact Option.some.inj this
      subst h2
      have b1 : decide ((300 : Int) < (xs.length : Int)) = true := decide_eq_true (by omega)
      clear H hmany
      go_wp2
      first | go_end0 | ((try simp only [Exit.inBlock, Exit.then]); refine bodyPost_ret (results_none rfl _ _ _) rfl ?_) | go_ret
      exact ⟨rfl, HI1.out.weaken (fun k hk => .inl hk), HBW.out, HK1.out⟩
    · have b1 : decide ((300 : Int) < (xs.length : Int)) = false := decide_eq_false (by omega)
      have HMANY := Aside0.mk hmany
      clear hmany
      go_wp2
      have HOWN := Aside0.mk (show spec_l1Own.f row = some row from by
        have := HR1.out
        unfold spec_l1Own.f
        simp only [Option.bind_some]
        rw [if_pos (by simp; omega)]
        simp)
      have hs0 := blk_cell HBX.out 0
      have hs1 := blk_cell HBX.out 1
      have hs2 := blk_cell HBX.out 2
      simp only [List.getElem?_toArray, List.getElem?_cons_zero, List.getElem?_cons_succ] at hs0 hs1 hs2
      go_loopw [8] (fun v8 wr => ∃ i : Nat, i ≤ row.length ∧ v8 = .int .i64 i ∧ wr = w1 ∧ Aside0 (∀ j : Nat, j < i → rd row j ≠ 0)) (fun v _ => row.length - (intOf v).toNat)
      case atStart => exact ⟨0, Nat.zero_le _, rfl, rfl, ⟨fun j hj => by omega⟩⟩
      case round =>
        obtain ⟨i, hi, rfl, hwr, HZ⟩ := hrel
        have hw2 : w1 = wr := hwr.symm
        subst hw2
        clear hwr
        have hr1 := HR1.out
        by_cases hlt : i < row.length
        · have hci := HC1.out i hlt
          obtain ⟨y, hy⟩ : ∃ y, rd row i = y := ⟨_, rfl⟩
          rw [hy] at hci
          have HY := Aside0.mk hy
          have HLI := Aside0.mk hlt
          clear hy
          by_cases hz : y = 0
          · have bz : (y != 0) = false := bne_eq_false_iff_eq.mpr hz
            have be : ((i : Int) == (row.length : Int)) = false := beq_eq_false_iff_ne.mpr (by omega)
            have HA := Aside0.mk (zeroAt_is row i hi HZ.out (fun _ => by rw [HY.out]; exact hz))
            clear hz
            go_wp2
            have h2 : pzLoop (pzF prow from_ shift k) prow row shift used i (row.length / 2) from_ xs = some xs' := by
              have := H.out
              rw [pzF, if_neg HMANY.out, HA.out, if_neg (by have := HLI.out; omega)] at this
              exact this
            have H2 := Aside0.mk h2
            clear h2 H hs0 hs1 hs2 hc1 hci
            have hfr := HFR.out
            have hs := HS.out
            go_loopw [9] (fun v9 wr => ∃ (m : Nat) (xs1 : List (List Int)), m ≤ row.length / 2 ∧ v9 = .int .i64 (from_ + (m : Int)) ∧ Aside0 (OutI base bo (fun k => X k ∨ k = bs) xs1 wr) ∧ Aside0 (Below base w1 wr) ∧ Aside0 (∀ k, (X k ∨ k = bs) → wr.heap[k]? = w1.heap[k]?) ∧ Aside0 (pzLoop (pzF prow from_ shift k) prow row shift used i (row.length / 2 - m) (from_ + (m : Int)) xs1 = some xs')) (fun v _ => (from_ + ((row.length / 2 : Nat) : Int) - intOf v).toNat)
            case atStart => exact ⟨0, xs, Nat.zero_le _, by simp, HI1, ⟨Below.refl _ _⟩, ⟨fun _ _ => rfl⟩, ⟨by simpa using H2.out⟩⟩
            case round =>
              obtain ⟨m, xs1, hm, rfl, HI2, HB2, HK2, HH⟩ := hrel
              have HBX2 := Aside0.mk ((HK2.out bs (.inr rfl)).trans HBX.out)
              have HC2 := Aside0.mk (told_same HC1.out (HK2.out _ (.inl HXA.out)))
              have HP2 := Aside0.mk (told_same HP1.out (HB2.out.block _ HPD.out))
              have hs0 := blk_cell HBX2.out 0
              have hs1 := blk_cell HBX2.out 1
              have hs2 := blk_cell HBX2.out 2
              simp only [List.getElem?_toArray, List.getElem?_cons_zero, List.getElem?_cons_succ] at hs0 hs1 hs2
              have hq : wrap64 ((row.length : Int) / 2) = ((row.length / 2 : Nat) : Int) := by rw [wrap_in (by omega) (by omega)]; omega
              have hq2 : IntKind.i64.wrap ((row.length : Int) / 2) = ((row.length / 2 : Nat) : Int) := by rw [i64_w]; exact hq
              by_cases hlt : m < row.length / 2
              · obtain ⟨q, hmq⟩ : ∃ q, row.length / 2 - m = q + 1 := ⟨row.length / 2 - m - 1, by omega⟩
                have hmq2 : row.length / 2 - (m + 1) = q := by omega
                have h3 := HH.out
                rw [hmq] at h3
                have hn1 : 1 ≤ from_ + (m : Int) ∧ from_ + (m : Int) ≤ 60 := by omega
                have hb0 : decide (from_ + (m : Int) < from_ + (row.length : Int) / 2) = true := decide_eq_true (by omega)
                have hnn : from_ + (m : Int) + 1 = from_ + ((m + 1 : Nat) : Int) := by omega
                obtain ⟨n, hn⟩ : ∃ n, from_ + (m : Int) = n := ⟨_, rfl⟩
                rw [hn] at h3 hb0 hn1 hnn
                have HH3 := Aside0.mk h3
                have HMQ := Aside0.mk hmq
                have HMQ2 := Aside0.mk hmq2
                have HLTM := Aside0.mk hlt
                have HNN := Aside0.mk hnn
                have HM := Aside0.mk hm
                have HN := Aside0.mk hn
                rw [hn]
                clear HH h3 hmq hmq2 hlt hm hn hnn
                obtain ⟨t, ht⟩ : ∃ t : Int, (i : Int) + n + shift = t := ⟨_, rfl⟩
                have HTT := Aside0.mk ht
                clear ht
                go_upto_region 11 with (fail)
                rw [HTT.out]
                go_cut [78] (fun v78 wc => ∃ x : Bool, v78 = .bool x ∧ wc = wr ∧ Aside0 (x = true ↔ pzPassed row used n t))
                case first =>
                  by_cases c1 : used.testBit n.toNat = true
                  · have b1 : (((used : Int) / 2 ^ n.toNat).tmod 2 == 1) = true := by rw [bit_int, if_pos c1]; rfl
                    have HPS := Aside0.mk (show pzPassed row used n t from .inl c1)
                    clear c1
                    go_wp2
                    go_meet
                    case rel => exact ⟨true, rfl, by first | trivial | rfl, ⟨⟨fun _ => HPS.out, fun _ => rfl⟩⟩⟩
                  have b1 : (((used : Int) / 2 ^ n.toNat).tmod 2 == 1) = false := by rw [bit_int, if_neg c1]; rfl
                  have C1 := Aside0.mk c1
                  clear c1
                  by_cases c2 : (row.length : Int) ≤ t
                  · have b2 : decide ((row.length : Int) ≤ t) = true := decide_eq_true c2
                    have HPS := Aside0.mk (show pzPassed row used n t from .inr (.inl c2))
                    clear c2
                    go_wp2
                    go_meet
                    case rel => exact ⟨true, rfl, by first | trivial | rfl, ⟨⟨fun _ => HPS.out, fun _ => rfl⟩⟩⟩
                  have b2 : decide ((row.length : Int) ≤ t) = false := decide_eq_false c2
                  have C2 := Aside0.mk c2
                  have ht0 : 0 ≤ t := by have := HTT.out; omega
                  have HT0 := Aside0.mk ht0
                  have hcr := HC2.out t.toNat (by omega)
                  rw [Int.toNat_of_nonneg ht0] at hcr
                  have p1 : (0 ≤ t) = True := eq_true ht0
                  have q1 : (t < (row.length : Int)) = True := eq_true (by omega)
                  clear c2 ht0
                  obtain ⟨u, hu1⟩ : ∃ u, rd row t = u := ⟨_, rfl⟩
                  rw [hu1] at hcr
                  have HU := Aside0.mk hu1
                  clear hu1
                  by_cases c3 : u = 0
                  · have b3 : (u != 0) = false := bne_eq_false_iff_eq.mpr c3
                    have HPS := Aside0.mk (show ¬ pzPassed row used n t from fun h => by
                      rcases h with h | h | h
                      · exact C1.out h
                      · exact C2.out h
                      · exact h (HU.out.trans c3))
                    clear c3
                    go_wp2
                    go_meet
                    case rel => exact ⟨false, rfl, by first | trivial | rfl, ⟨⟨fun h => by simp at h, fun h => absurd h HPS.out⟩⟩⟩
                  · have b3 : (u != 0) = true := bne_iff_ne.mpr c3
                    have HPS := Aside0.mk (show pzPassed row used n t from .inr (.inr (by rw [HU.out]; exact c3)))
                    clear c3
                    go_wp2
                    go_meet
                    case rel => exact ⟨true, rfl, by first | trivial | rfl, ⟨⟨fun _ => HPS.out, fun _ => rfl⟩⟩⟩
                case rest =>
                  obtain ⟨x, rfl, hwc, HPX⟩ := hcut
                  have hwc2 : wr = wc := hwc.symm
                  subst hwc2
                  clear hwc
                  have HREL := Aside0.mk (show ∀ (x1 : List (List Int)) (w' : World), OutI base bo (fun k => X k ∨ k = bs) x1 w' → Below base w1 w' → (∀ k, (X k ∨ k = bs) → w'.heap[k]? = w1.heap[k]?) → pzLoop (pzF prow from_ shift k) prow row shift used i q (n + 1) x1 = some xs' → ∃ (m' : Nat) (xs1 : List (List Int)), m' ≤ row.length / 2 ∧ Value.int .i64 (n + 1) = .int .i64 (from_ + (m' : Int)) ∧ Aside0 (OutI base bo (fun k => X k ∨ k = bs) xs1 w') ∧ Aside0 (Below base w1 w') ∧ Aside0 (∀ k, (X k ∨ k = bs) → w'.heap[k]? = w1.heap[k]?) ∧ Aside0 (pzLoop (pzF prow from_ shift k) prow row shift used i (row.length / 2 - m') (from_ + (m' : Int)) xs1 = some xs') from fun x1 w' h1 h2 h3 h4 => ⟨m + 1, x1, HLTM.out, by rw [HNN.out], ⟨h1⟩, ⟨h2⟩, ⟨h3⟩, ⟨by rw [HMQ2.out, ← HNN.out]; exact h4⟩⟩)
                  cases x with
                  | true =>
                    have h4 := (pzLoop_pass (rec := pzF prow from_ shift k) (prow := prow) (used := used) (q := q) (xs := xs1) HTT.out (.inl (HPX.out.1 rfl))).symm.trans HH3.out
                    have HH4 := Aside0.mk h4
                    clear h4
                    go_wp2
                    go_roundw
                    case rel => exact HREL.out xs1 wr HI2.out HB2.out HK2.out HH4.out
                    case measure => simp only [intOf]; have := HN.out; have := HLTM.out; omega
                  | false =>
                    have hnp : ¬ pzPassed row used n t := fun h => by simpa using HPX.out.2 h
                    have HNP := Aside0.mk hnp
                    have htl : t < (row.length : Int) := by
                      rcases Int.lt_or_le t row.length with h | h
                      · exact h
                      · exact absurd (Or.inr (Or.inl h)) hnp
                    have ht0 : 0 ≤ t := by have := HTT.out; omega
                    have HTL := Aside0.mk htl
                    have HT0 := Aside0.mk ht0
                    have hca := HP2.out i (by have := HLT.out; have := HLI.out; omega)
                    have hct := HP2.out t.toNat (by have := HLT.out; omega)
                    rw [Int.toNat_of_nonneg ht0] at hct
                    have p1 : (0 ≤ t) = True := eq_true ht0
                    have q1 : (t < (prow.length : Int)) = True := eq_true (by have := HLT.out; omega)
                    have p2 : (0 ≤ (i : Int)) = True := eq_true (by omega)
                    have q2 : ((i : Int) < (prow.length : Int)) = True := eq_true (by have := HLT.out; have := HLI.out; omega)
                    clear hnp htl ht0
                    obtain ⟨ya, hya⟩ : ∃ u, rd prow i = u := ⟨_, rfl⟩
                    obtain ⟨yt, hyt⟩ : ∃ u, rd prow t = u := ⟨_, rfl⟩
                    rw [hya] at hca
                    rw [hyt] at hct
                    have HYA := Aside0.mk hya
                    have HYT := Aside0.mk hyt
                    clear hya hyt
                    go_upto_region 12 with (fail)
                    go_cut [110] (fun v110 wc => ∃ x : Bool, v110 = .bool x ∧ wc = wr ∧ Aside0 (x = true ↔ pzWrong prow i n t))
                    case first =>
                      by_cases c4 : ya ≠ 0 ∧ ya ≠ n
                      · have b4 : (ya != 0) = true := bne_iff_ne.mpr c4.1
                        have b5 : (ya != n) = true := bne_iff_ne.mpr c4.2
                        have HPS := Aside0.mk (show pzWrong prow i n t from .inl (by rw [HYA.out]; exact c4))
                        clear c4
                        go_wp2
                        go_meet
                        case rel => exact ⟨true, rfl, by first | trivial | rfl, ⟨⟨fun _ => HPS.out, fun _ => rfl⟩⟩⟩
                      have C4 := Aside0.mk c4
                      by_cases c5 : yt ≠ 0 ∧ yt ≠ n
                      · have b6 : (yt != 0) = true := bne_iff_ne.mpr c5.1
                        have b7 : (yt != n) = true := bne_iff_ne.mpr c5.2
                        have HPS := Aside0.mk (show pzWrong prow i n t from .inr (by rw [HYT.out]; exact c5))
                        clear c5
                        by_cases c6 : ya = 0
                        · have b4 : (ya != 0) = false := bne_eq_false_iff_eq.mpr c6
                          clear c6 c4
                          go_wp2
                          go_meet
                          case rel => exact ⟨true, rfl, by first | trivial | rfl, ⟨⟨fun _ => HPS.out, fun _ => rfl⟩⟩⟩
                        · have b4 : (ya != 0) = true := bne_iff_ne.mpr c6
                          have b5 : (ya != n) = false := bne_eq_false_iff_eq.mpr (Classical.byContradiction fun h => c4 ⟨c6, h⟩)
                          clear c6 c4
                          go_wp2
                          go_meet
                          case rel => exact ⟨true, rfl, by first | trivial | rfl, ⟨⟨fun _ => HPS.out, fun _ => rfl⟩⟩⟩
                      have C5 := Aside0.mk c5
                      have HPS := Aside0.mk (show ¬ pzWrong prow i n t from fun h => by
                        rcases h with h | h
                        · rw [HYA.out] at h; exact C4.out h
                        · rw [HYT.out] at h; exact C5.out h)
                      by_cases c6 : ya = 0
                      · have b4 : (ya != 0) = false := bne_eq_false_iff_eq.mpr c6
                        by_cases c7 : yt = 0
                        · have b6 : (yt != 0) = false := bne_eq_false_iff_eq.mpr c7
                          clear c6 c7 c4 c5
                          go_wp2
                          go_meet
                          case rel => exact ⟨false, rfl, by first | trivial | rfl, ⟨⟨fun h => by simp at h, fun h => absurd h HPS.out⟩⟩⟩
                        · have b6 : (yt != 0) = true := bne_iff_ne.mpr c7
                          have b7 : (yt != n) = false := bne_eq_false_iff_eq.mpr (Classical.byContradiction fun h => c5 ⟨c7, h⟩)
                          clear c6 c7 c4 c5
                          go_wp2
                          go_meet
                          case rel => exact ⟨false, rfl, by first | trivial | rfl, ⟨⟨fun h => by simp at h, fun h => absurd h HPS.out⟩⟩⟩
                      · have b4 : (ya != 0) = true := bne_iff_ne.mpr c6
                        have b5 : (ya != n) = false := bne_eq_false_iff_eq.mpr (Classical.byContradiction fun h => c4 ⟨c6, h⟩)
                        by_cases c7 : yt = 0
                        · have b6 : (yt != 0) = false := bne_eq_false_iff_eq.mpr c7
                          clear c6 c7 c4 c5
                          go_wp2
                          go_meet
                          case rel => exact ⟨false, rfl, by first | trivial | rfl, ⟨⟨fun h => by simp at h, fun h => absurd h HPS.out⟩⟩⟩
                        · have b6 : (yt != 0) = true := bne_iff_ne.mpr c7
                          have b7 : (yt != n) = false := bne_eq_false_iff_eq.mpr (Classical.byContradiction fun h => c5 ⟨c7, h⟩)
                          clear c6 c7 c4 c5
                          go_wp2
                          go_meet
                          case rel => exact ⟨false, rfl, by first | trivial | rfl, ⟨⟨fun h => by simp at h, fun h => absurd h HPS.out⟩⟩⟩
                    case rest =>
                      obtain ⟨x, rfl, hwc, HPY⟩ := hcut
                      have hwc2 : wr = wc := hwc.symm
                      subst hwc2
                      clear hwc
                      cases x with
                      | true =>
                        have h4 := (pzLoop_pass (rec := pzF prow from_ shift k) (prow := prow) (used := used) (q := q) (xs := xs1) HTT.out (.inr (HPY.out.1 rfl))).symm.trans HH3.out
                        have HH4 := Aside0.mk h4
                        clear h4
                        go_wp2
                        go_roundw
                        case rel => exact HREL.out xs1 wr HI2.out HB2.out HK2.out HH4.out
                        case measure => simp only [intOf]; have := HN.out; have := HLTM.out; omega
                      | false =>
                        have hny : ¬ pzWrong prow i n t := fun h => by simpa using HPY.out.2 h
                        have h4 := (pzLoop_put (rec := pzF prow from_ shift k) (prow := prow) (used := used) (q := q) (xs := xs1) HTT.out (fun h => h.elim HNP.out hny)).symm.trans HH3.out
                        obtain ⟨xs2, hrec, h5⟩ := Option.bind_eq_some_iff.1 h4
                        have HREC := Aside0.mk hrec
                        have HH5 := Aside0.mk h5
                        clear hny h4 hrec h5 hca hct p1 q1 p2 q2 hs0 hs1 hs2
                        have p1 : (0 ≤ t) = True := eq_true HT0.out
                        have q1 : (t < (row.length : Int)) = True := eq_true HTL.out
                        have p2 : (0 ≤ (i : Int)) = True := eq_true (by omega)
                        have q2 : ((i : Int) < (row.length : Int)) = True := eq_true (by have := HLI.out; omega)
                        go_upto_region 14 with (first | ((with_reducible refine gate_callee (f := 73) rfl ?_); refine goesL_ (some 112) rfl rfl Try.func73 (by kernel_rfl) rfl #[.slice (some ad) row.length c] rfl (by (try simp only [List.map_toArray, List.map_cons, List.map_nil]); first | done | rfl) ?_; refine (spec_l1Own.calls (some ad) c row row wr (cells_C HC2.out (by have := HR1.out; omega)) HCC.out HOWN.out).mono ?_; rintro e w3 ⟨v3, rfl, hv3, hb3⟩; refine ⟨_, rfl, ?_⟩; have HV3 := Aside0.mk hv3; have HB3 := Aside0.mk hb3; clear hv3 hb3; obtain ⟨gn, cn, e3, hge, hlt3, cl3, hg3⟩ := Kd.R_form HV3.out HR0.out; subst e3; have HGE := Aside0.mk hge; have HG3 := Aside0.mk hg3; clear hge hlt3 hg3))
                        have hv0 := Kd.R_celln (d := (0 : Int)) HV3.out (i : Int) (by omega) (by have := HLI.out; omega)
                        rw [Int.toNat_natCast] at hv0
                        obtain ⟨hx1, hf1⟩ := hv0
                        go_upto_region 16 with (first | ((with_reducible refine gate_store (t := 3) (p := 116) rfl ?_); refine store_event (t := 3) (p := 116) (v := ?voA) (w1 := (w3.setCell ⟨gn, i, none⟩ (.int .i64 n))) ?hg ?ho ?hn ?hr ?_; (case ho => rfl); (case hg => rfl); (case hn => rfl); (case hr => first | (go_simp; done) | (go_simp; rfl)); intro w4 hw4; have HV4 := Aside0.mk (show Kd.R (Kd.int .i64) 3 w4 wr.heap.size (fun _ => True) (.slice (some ⟨gn, 0, none⟩) row.length cn) (row.set i n) from by rw [hw4]; have h := (Kd.R_putg HV3.out (i : Int) n).1; rw [Int.toNat_natCast] at h; exact h); have hv4 := Kd.R_celln (d := (0 : Int)) HV4.out t HT0.out HTL.out; have HW4 := Aside0.mk hw4; obtain ⟨hx2, hf2⟩ := hv4; clear hw4) | ((with_reducible refine gate_store (t := 3) (p := 120) rfl ?_); refine store_event (t := 3) (p := 120) (v := ?voB) (w1 := (w4.setCell ⟨gn, t.toNat, none⟩ (.int .i64 n))) ?hg ?ho ?hn ?hr ?_; (case ho => rfl); (case hg => rfl); (case hn => rfl); (case hr => first | (go_simp; done) | (go_simp; rfl)); intro w5 hw5; have HV5 := Aside0.mk (show Kd.R (Kd.int .i64) 3 w5 wr.heap.size (fun _ => True) (.slice (some ⟨gn, 0, none⟩) row.length cn) ((row.set i n).set t.toNat n) from by rw [hw5]; exact (Kd.R_putg HV4.out t n).1); have HW5 := Aside0.mk hw5; clear hw5))
                        have hother : ∀ k, k ≠ gn → w5.heap[k]? = w3.heap[k]? := fun k hk => by
                          rw [HW5.out, HW4.out]
                          exact (Below.heap_setCell _ _ _ k hk).trans (Below.heap_setCell _ _ _ k hk)
                        have hsize : w5.heap.size = w3.heap.size := by
                          rw [HW5.out, HW4.out, size_setCell, size_setCell]
                        have hbel : Below wr.heap.size wr w5 := by
                          rw [HW5.out, HW4.out]
                          exact (HB3.out.setCell (show wr.heap.size ≤ (⟨gn, i, none⟩ : Addr).block from HGE.out) _).setCell (show wr.heap.size ≤ (⟨gn, t.toNat, none⟩ : Addr).block from HGE.out) _
                        have HOTH := Aside0.mk hother
                        have HSIZ := Aside0.mk hsize
                        have HBEL := Aside0.mk hbel
                        clear hother hsize hbel hx1 hf1 hx2 hf2
                        have hbw : base ≤ wr.heap.size := by have := HB2.out.size; have := HBW.out.size; have := HB0.out; omega
                        have HBWR := Aside0.mk hbw
                        clear hbw
                        have HI5 := Aside0.mk (show OutI base bo (fun k => (X k ∨ k = bs) ∨ k = gn) xs1 w5 from (HI2.out.step HB3.out (fun k => k = gn) (fun k hk => ⟨by rw [hk]; exact HGE.out, by rw [hk]; exact blk_lt HG3.out⟩)).stable (by rw [HSIZ.out]; exact Nat.le_refl _) (fun k _ hk => HOTH.out k (fun e => hk (.inr e))))
                        have hs5 : w5.heap[bs]? = some (.cells #[.slice (some pd) prow.length pc, .int .i64 from_, .int .i64 shift] 27 (0, 0)) := blk_below HBX2.out HBEL.out
                        have hs0 := blk_cell hs5 0
                        have hs1 := blk_cell hs5 1
                        have hs2 := blk_cell hs5 2
                        simp only [List.getElem?_toArray, List.getElem?_cons_zero, List.getElem?_cons_succ] at hs0 hs1 hs2
                        refine start_ (n := 8) (S := fun w' => w'.cell? ⟨bs, 0, none⟩ = some (.slice (some pd) prow.length pc) ∧ w'.cell? ⟨bs, 1, none⟩ = some (.int .i64 from_) ∧ w'.cell? ⟨bs, 2, none⟩ = some (.int .i64 shift)) (ds := [7]) #[false, false, false, false, false, false, false, false] (by kernel_rfl) rfl rfl ⟨hs0, hs1, hs2⟩ (fun hHeld => ?_)
                        have HS16 := Aside0.mk (show w5.drew.heap = w5.heap from rfl)
                        have HBD := Aside0.mk (below_drew1 (Below.refl base w5))
                        refine take_ (i := 0) (N := some 121) (v := ?_) (a' := ?_) #[true, false, false, false, false, false, false, false] rfl rfl (by kernel_rfl) (fun _ _ _ h => h) (Or.inl ⟨by rfl, ?_⟩) hHeld ?_ ?_
                        rotate_left
                        · rintro w' ⟨s0, s1, s2⟩
                          go_simp
                          with_reducible rfl
                        rotate_left
                        · simp only [Act.put, List.setIfInBounds_toArray, List.set_cons_zero, List.set_cons_succ, i64_w, i32_w]
                          rfl
                        refine pure_ (i := 1) (N := some 122) (v := ?_) (a' := ?_) #[true, true, false, false, false, false, false, false] rfl rfl (by kernel_rfl) (fun _ _ _ h => h) (Or.inl ⟨by rfl, ?_⟩) ?_ ?_
                        rotate_left
                        · intro w'
                          go_simp
                          with_reducible rfl
                        rotate_left
                        · simp only [Act.put, List.setIfInBounds_toArray, List.set_cons_zero, List.set_cons_succ, i64_w, i32_w]
                          rfl
                        refine pure_ (i := 2) (N := some 123) (v := ?_) (a' := ?_) #[true, true, true, false, false, false, false, false] rfl rfl (by kernel_rfl) (fun _ _ _ h => h) (Or.inl ⟨by rfl, ?_⟩) ?_ ?_
                        rotate_left
                        · intro w'
                          go_simp
                          with_reducible rfl
                        rotate_left
                        · simp only [Act.put, List.setIfInBounds_toArray, List.set_cons_zero, List.set_cons_succ, i64_w, i32_w]
                          rfl
                        refine pure_ (i := 3) (N := some 124) (v := ?_) (a' := ?_) #[true, true, true, true, false, false, false, false] rfl rfl (by kernel_rfl) (fun _ _ _ h => h) (Or.inl ⟨by rfl, ?_⟩) ?_ ?_
                        rotate_left
                        · intro w'
                          go_simp
                          with_reducible rfl
                        rotate_left
                        · simp only [Act.put, List.setIfInBounds_toArray, List.set_cons_zero, List.set_cons_succ, i64_w, i32_w]
                          rfl
                        refine pure_ (i := 4) (N := some 125) (v := ?_) (a' := ?_) #[true, true, true, true, true, false, false, false] rfl rfl (by kernel_rfl) (fun _ _ _ h => h) (Or.inl ⟨by rfl, ?_⟩) ?_ ?_
                        rotate_left
                        · intro w'
                          go_simp
                          with_reducible rfl
                        rotate_left
                        · simp only [Act.put, List.setIfInBounds_toArray, List.set_cons_zero, List.set_cons_succ, i64_w, i32_w]
                          rfl
                        refine pure_ (i := 5) (N := some 126) (v := ?_) (a' := ?_) #[true, true, true, true, true, true, false, false] rfl rfl (by kernel_rfl) (fun _ _ _ h => h) (Or.inl ⟨by rfl, ?_⟩) ?_ ?_
                        rotate_left
                        · intro w'
                          go_simp
                          with_reducible rfl
                        rotate_left
                        · simp only [Act.put, List.setIfInBounds_toArray, List.set_cons_zero, List.set_cons_succ, i64_w, i32_w]
                          rfl
                        refine pure_ (i := 6) (N := some 127) (v := ?_) (a' := ?_) #[true, true, true, true, true, true, true, false] rfl rfl (by kernel_rfl) (fun _ _ _ h => h) (Or.inl ⟨by rfl, ?_⟩) ?_ ?_
                        rotate_left
                        · intro w'
                          go_simp
                          with_reducible rfl
                        rotate_left
                        · simp only [Act.put, List.setIfInBounds_toArray, List.set_cons_zero, List.set_cons_succ, i64_w, i32_w]
                          rfl
                        have hn40 : n.toNat < 60 := by have := HN.out; have := HLTM.out; omega
                        have hbits : bits BinOp.or IntKind.i64 (used : Int) (wrap64 (2 ^ n.toNat)) = ((used ||| 2 ^ n.toNat : Nat) : Int) := or_bit HUS.out hn40
                        rw [hbits]
                        clear hbits
                        generalize w5.drew = w6 at HS16 HBD hHeld ⊢
                        have HI6 := Aside0.mk (HI5.out.stable (by rw [HS16.out]; exact Nat.le_refl _) (fun k _ _ => by rw [HS16.out]))
                        have HCALL := Aside0.mk (IH.out (fun k => (X k ∨ k = bs) ∨ k = gn) xs1 xs2 ((row.set i n).set t.toNat n) (used ||| 2 ^ n.toNat) ⟨gn, 0, none⟩ cn w6 (by rw [HS16.out, HSIZ.out]; have := HB3.out.size; have := HBWR.out; omega) (by rw [List.length_set, List.length_set]; exact HLT.out) (by rw [List.length_set, List.length_set]; exact HR0.out) (by rw [List.length_set, List.length_set]; exact HR1.out) (Nat.or_lt_two_pow HUS.out (Nat.pow_lt_pow_right (by decide) hn40)) (.inr rfl)
                          (fun j hj => by
                            have h := (Kd.R_celln (d := (0 : Int)) HV5.out (j : Int) (by omega) (by rw [List.length_set, List.length_set] at hj; omega)).1
                            rw [Int.toNat_natCast] at h
                            rw [add_block0]
                            simp only [World.cell?, HS16.out] at h ⊢
                            exact h)
                          (told_same HP2.out ((by rw [HS16.out]; exact HBEL.out.block _ (by have := HPD.out; have := HBWR.out; omega) : w6.heap[pd.block]? = wr.heap[pd.block]?)))
                          (by rw [List.length_set, List.length_set]; have := (Kd.R_reads' HV5.out).2.1; omega) HI6.out HREC.out)
                        rw [List.length_set, List.length_set] at HCALL
                        clear hn40
                        refine last_ (i := 7) (N := some 128) #[true, true, true, true, true, true, true, true] rfl rfl (by kernel_rfl) (by decide) (fun K hK => ?_)
                        refine goes_ Try.func84 (by kernel_rfl) rfl #[.agg #[.slice (some pd) prow.length pc, .int .i64 from_, .int .i64 shift], .slice (some ⟨gn, 0, none⟩) row.length cn, .int .i64 ((used ||| 2 ^ n.toNat : Nat) : Int), .pointer (some ⟨bo, 0, none⟩)] (by rfl) rfl rfl (by (try simp only [List.map_toArray, List.map_cons, List.map_nil]); first | done | rfl) ?_
                        refine HCALL.out.mono ?_
                        rintro e w7 ⟨rfl, hI7, hB7, hX7⟩
                        refine ⟨_, rfl, ?_⟩
                        have HI7 := Aside0.mk hI7
                        have HB7 := Aside0.mk hB7
                        have HX7 := Aside0.mk hX7
                        clear hI7 hB7 hX7
                        refine hK.out _ _ ?_
                        clear hK K
                        refine done_ (by kernel_rfl) ?_
                        try go_wp2
                        go_roundw
                        case rel =>
                          refine HREL.out xs2 w7 (HI7.out.weaken (fun k hk => .inl hk)) (HB2.out.trans ((HBEL.out.mono HBWR.out).trans (HBD.out.trans HB7.out))) (fun k hk => ?_) HH5.out
                          have e1 := HX7.out k (.inl hk)
                          have hlt := HI2.out.lt k hk
                          rw [e1, HS16.out, HBEL.out.block k hlt]
                          exact HK2.out k hk
                        case measure => simp only [intOf]; have := HN.out; have := HLTM.out; omega
              · obtain rfl : m = row.length / 2 := by omega
                have hx : xs1 = xs' := by
                  have := HH.out
                  rw [Nat.sub_self] at this
                  exact Option.some.inj this
                subst hx
                have hb0 : decide (from_ + ((row.length / 2 : Nat) : Int) < from_ + (row.length : Int) / 2) = false := decide_eq_false (by omega)
                have hb1 : decide (from_ + (row.length : Int) / 2 < from_ + (row.length : Int) / 2) = false := decide_eq_false (by omega)
                clear HH hlt hm
                go_wp2
                first | go_end0 | ((try simp only [Exit.inBlock, Exit.then]); refine bodyPost_ret (results_none rfl _ _ _) rfl ?_)
                exact ⟨rfl, HI2.out.weaken (fun k hk => .inl hk), HBW.out.trans HB2.out, fun k hk => (HK2.out k (.inl hk)).trans (HK1.out k hk)⟩
          · have bz : (y != 0) = true := bne_iff_ne.mpr hz
            have HNZ := Aside0.mk hz
            clear hz
            go_wp2
            go_roundw
            case rel => exact ⟨i + 1, HLI.out, by go_num, by first | trivial | rfl, ⟨fun j hj => by
              by_cases e : j = i
              · rw [e, HY.out]; exact HNZ.out
              · exact HZ.out j (by omega)⟩⟩
            case measure => simp [intOf]; have := HLI.out; omega
        · obtain rfl : i = row.length := by omega
          have be : ((row.length : Int) == (row.length : Int)) = true := beq_self_eq_true _
          have hza := zeroAt_is row row.length hi HZ.out (fun h => by omega)
          have hx : xs ++ [row] = xs' := by
            have := H.out
            rw [pzF, if_neg HMANY.out, if_pos hza] at this
            exact Option.some.inj this
          subst hx
          clear H hza hlt
          go_upto_region 6 with (fail)
          refine start_ (n := 10) (S := fun w' => w'.cell? ⟨bo, 0, none⟩ = some (.slice A3 xs.length c3)) (ds := [9]) #[false, false, false, false, false, false, false, false, false, false] (by kernel_rfl) rfl rfl hc1 (fun hHeld => ?_)
          have HO1 := Aside0.mk (show w1.drew.heap[bo]? = some (.cells #[.slice A3 xs.length c3] 50 (0, 0)) from HO.out)
          have HS1 := Aside0.mk (Kd.S_drew HS3.out)
          have HC2 := Aside0.mk (show ∀ j, j < row.length → w1.drew.cell? (ad.add j) = some (.int .i64 (rd row j)) from HC1.out)
          have HB2 := Aside0.mk (below_drew1 (Below.refl base w1))
          have HK2 := Aside0.mk (show ∀ k, X k → w1.drew.heap[k]? = w1.heap[k]? from fun _ _ => rfl)
          have HL2 := Aside0.mk (show ∀ k, (X k ∨ k = bs) → k < w1.drew.heap.size from HI1.out.lt)
          generalize w1.drew = w2 at HO1 HS1 HC2 HB2 HK2 HL2 hHeld ⊢
          refine pure_ (i := 0) (N := some 34) (v := ?_) (a' := ?_) #[true, false, false, false, false, false, false, false, false, false] rfl rfl (by kernel_rfl) (fun _ _ _ h => h) (Or.inl ⟨by rfl, ?_⟩) ?_ ?_
          rotate_left
          · intro w'
            go_simp
            with_reducible rfl
          rotate_left
          · simp only [Act.put, List.setIfInBounds_toArray, List.set_cons_zero, List.set_cons_succ, i64_w, i32_w]
            rfl
          refine pure_ (i := 1) (N := some 35) (v := ?_) (a' := ?_) #[true, true, false, false, false, false, false, false, false, false] rfl rfl (by kernel_rfl) (fun _ _ _ h => h) (Or.inl ⟨by rfl, ?_⟩) ?_ ?_
          rotate_left
          · intro w'
            go_simp
            with_reducible rfl
          rotate_left
          · simp only [Act.put, List.setIfInBounds_toArray, List.set_cons_zero, List.set_cons_succ, i64_w, i32_w]
            rfl
          refine pure_ (i := 2) (N := some 36) (v := ?_) (a' := ?_) #[true, true, true, false, false, false, false, false, false, false] rfl rfl (by kernel_rfl) (fun _ _ _ h => h) (Or.inl ⟨by rfl, ?_⟩) ?_ ?_
          rotate_left
          · intro w'
            go_simp
            with_reducible rfl
          rotate_left
          · simp only [Act.put, List.setIfInBounds_toArray, List.set_cons_zero, List.set_cons_succ, i64_w, i32_w]
            rfl
          refine take_ (i := 3) (N := some 37) (v := ?_) (a' := ?_) #[true, true, true, true, false, false, false, false, false, false] rfl rfl (by kernel_rfl) (fun _ _ _ h => h) (Or.inl ⟨by rfl, ?_⟩) hHeld ?_ ?_
          rotate_left
          · rintro w' s0
            go_simp
            with_reducible rfl
          rotate_left
          · simp only [Act.put, List.setIfInBounds_toArray, List.set_cons_zero, List.set_cons_succ, i64_w, i32_w]
            rfl
          refine pure_ (i := 4) (N := some 38) (v := ?_) (a' := ?_) #[true, true, true, true, true, false, false, false, false, false] rfl rfl (by kernel_rfl) (fun _ _ _ h => h) (Or.inl ⟨by rfl, ?_⟩) ?_ ?_
          rotate_left
          · intro w'
            go_simp
            with_reducible rfl
          rotate_left
          · simp only [Act.put, List.setIfInBounds_toArray, List.set_cons_zero, List.set_cons_succ, i64_w, i32_w]
            rfl
          refine one_ (i := 5) (N := some 39) #[true, true, true, true, true, true, false, false, false, false] rfl rfl (by kernel_rfl) (by decide) (fun K hK => ?_)
          refine goes_ Try.func73 (by kernel_rfl) rfl #[.slice (some ad) row.length c] (by rfl) rfl rfl (by (try simp only [List.map_toArray, List.map_cons, List.map_nil]); first | done | rfl) ?_
          refine (spec_l1Own.calls (some ad) c row row w2 (cells_C HC2.out (by have := HR1.out; omega)) HCC.out HOWN.out).mono ?_
          rintro e w3 ⟨v3, rfl, hv3, hb3⟩
          refine ⟨_, rfl, ?_⟩
          have HV3 := Aside0.mk hv3
          have HB3 := Aside0.mk hb3
          have HO3 := Aside0.mk (blk_below HO1.out hb3)
          have HS3' := Aside0.mk (Kd.S_below (Kd.S_bound HS1.out) hb3)
          clear hv3 hb3
          refine hK.out _ _ (cell_of_one HO3.out) (fun hHeld => ?_)
          clear hK K
          refine norm_ (a' := ?_) ?_ ?_
          rotate_left
          · show Act.put _ (some 39) _ = _
            simp only [Act.put, List.setIfInBounds_toArray, List.set_cons_zero, List.set_cons_succ, i64_w, i32_w]
            rfl
          obtain ⟨A4, c4, e4⟩ := Kd.R_slice HV3.out
          subst e4
          refine one_ (i := 6) (N := some 40) #[true, true, true, true, true, true, true, false, false, false] rfl rfl (by kernel_rfl) (by decide) (fun K hK => ?_)
          refine value_ (v := .slice (some ⟨w3.heap.size, 0, none⟩) 1 1) (w1 := w3.alloc (.cells #[.slice A4 row.length c4] 22)) (by rfl) rfl ?_ ?_
          · first | (go_simp; done) | (go_simp; rfl)
          refine hK.out _ _ (cell_of_one (blk_alloc HO3.out _)) (fun hHeld => ?_)
          clear hK K
          refine norm_ (a' := ?_) ?_ ?_
          rotate_left
          · show Act.put _ (some 40) _ = _
            simp only [Act.put, List.setIfInBounds_toArray, List.set_cons_zero, List.set_cons_succ, i64_w, i32_w]
            rfl
          refine one_ (i := 7) (N := some 41) #[true, true, true, true, true, true, true, true, false, false] rfl rfl (by kernel_rfl) (by decide) (fun K hK => ?_)
          have hsz := HB3.out.size
          have hb2 : base ≤ w2.heap.size := by have := blk_lt HO1.out; have := HI1.out.ge; omega
          refine Kd.S_append_step (Kd.slice 3 (Kd.int .i64)) (w0 := w1) (W := w3) base (by rfl) (.tmp 37) (.tmp 40) 50 22 (.slice none 0 0) 24 rfl Try.underlying50 info22 rfl (by decide) (by omega) (.slice A3 xs.length c3) xs row [.slice A4 row.length c4] (fun k => ¬ (X k ∨ k = bs)) (fun k_ => some k_ = (.slice A4 row.length c4 : Value).ownBlock) rfl rfl ?aP ?aK ?aF ?aO ?aB ?aS ?aL ?_
          case aP => exact Kd.M_row (Kd.R_mono (Kd.R_tight rfl (Kd.R_lower HV3.out hb2)) (fun _ h_ => h_))
          case aK =>
            intro k hk
            have h1 := Kd.R_base HV3.out k hk.symm
            exact ⟨fun hx => by have := HL2.out k hx; omega, fun e => by have := Kd.S_lt HS1.out k e.symm; omega⟩
          case aF => exact fun k hk hx => by have := HL2.out k hx; omega
          case aO =>
            refine Kd.S_mono HS3'.out (fun k hk => ⟨hk.1, fun e => ?_⟩)
            have h1 := Kd.R_base HV3.out k e.symm
            have := hk.2.2.1
            omega
          case aB => exact HB2.out.trans (HB3.out.mono hb2)
          case aS => omega
          case aL => have := HMANY.out; omega
          intro v1 w4 hS4 hB4 hg4 hat4
          have HO4 := blk_grown HO3.out hg4 (Kd.S_ne HS3'.out HO3.out (by decide))
          have HK4 := Aside0.mk (show ∀ k, X k → w4.heap[k]? = w.heap[k]? from fun k hk => (hg4.block k (by have := HL2.out k (.inl hk); omega) (fun e => ((Kd.S_R HS3'.out).1 k e.symm).1 (.inl hk))).trans ((HB3.out.block k (HL2.out k (.inl hk))).trans ((HK2.out k hk).trans (HK1.out k hk))))
          have HB4 := Aside0.mk hB4
          have HS4 := Aside0.mk hS4
          have HL4 := Aside0.mk (show ∀ k, X k → k < w4.heap.size from fun k hk => by have := HL2.out k (.inl hk); have := hg4.size; omega)
          clear hsz hb2 hS4 hB4 hg4 hat4
          have hHeld0 := cell_of_one HO4
          have hc3 := hHeld0
          have hf3 := free_of_one HO4
          have HO4 := Aside0.mk HO4
          obtain ⟨A5, c5, e5⟩ := Kd.S_slice HS4.out
          subst e5
          refine hK.out _ _ hHeld0 (fun hHeld => ?_)
          clear hK K
          refine norm_ (a' := ?_) ?_ ?_
          rotate_left
          · show Act.put _ (some 41) _ = _
            simp only [Act.put, List.setIfInBounds_toArray, List.set_cons_zero, List.set_cons_succ, i64_w, i32_w]
            rfl
          refine pure_ (i := 8) (N := some 42) (v := ?_) (a' := ?_) #[true, true, true, true, true, true, true, true, true, false] rfl rfl (by kernel_rfl) (fun _ _ _ h => h) (Or.inl ⟨by rfl, ?_⟩) ?_ ?_
          rotate_left
          · intro w'
            go_simp
            with_reducible rfl
          rotate_left
          · simp only [Act.put, List.setIfInBounds_toArray, List.set_cons_zero, List.set_cons_succ, i64_w, i32_w]
            rfl
          refine last_ (i := 9) (N := none) #[true, true, true, true, true, true, true, true, true, true] rfl rfl (by kernel_rfl) (by decide) (fun K hK => ?_)
          refine skip_ (w1 := w4.setCell ⟨bo, 0, none⟩ (.slice A5 (xs ++ [row]).length c5)) (by rfl) rfl ?_ ?_
          · first | (go_simp; done) | (go_simp; rfl)
          refine hK.out _ _ ?_
          clear hK K
          refine done_ (by kernel_rfl) ?_
          have HO5 := Aside0.mk (one_setCell (u := (.slice A5 (xs ++ [row]).length c5)) HO4.out)
          have HS5 := Aside0.mk (Kd.S_set HS4.out HO4.out (by decide) 0 (.slice A5 (xs ++ [row]).length c5))
          have HB5 := Aside0.mk (HB4.out.setCell (show base ≤ (⟨bo, 0, none⟩ : Addr).block from HI1.out.ge) (.slice A5 (xs ++ [row]).length c5))
          have HK5 := Aside0.mk (show ∀ k, X k → (w4.setCell ⟨bo, 0, none⟩ (.slice A5 (xs ++ [row]).length c5)).heap[k]? = w.heap[k]? from fun k hk => (Below.heap_setCell w4 _ _ k (fun e => HI1.out.no (.inl (by rw [show k = bo from e] at hk; exact hk)))).trans (HK4.out k hk))
          have HL5 := Aside0.mk (show ∀ k, X k → k < (w4.setCell ⟨bo, 0, none⟩ (.slice A5 (xs ++ [row]).length c5)).heap.size from fun k hk => by rw [size_setCell]; exact HL4.out k hk)
          clear hc3 hf3 hHeld hHeld0
          generalize w4.setCell ⟨bo, 0, none⟩ (.slice A5 (xs ++ [row]).length c5) = w5 at HO5 HS5 HB5 HK5 HL5 ⊢
          try go_wp2
          first | go_end0 | ((try simp only [Exit.inBlock, Exit.then]); refine bodyPost_ret (results_none rfl _ _ _) rfl ?_)
          exact ⟨rfl, ⟨⟨_, HO5.out, Kd.S_mono HS5.out (fun k hk hx => hk (.inl hx))⟩, HI1.out.ge, fun hx => HI1.out.no (.inl hx), HL5.out⟩, HBW.out.trans HB5.out, HK5.out⟩


end Go.Proofs.Ytjfhcddahahdfaa.Fn
namespace Go.Proofs.Ytjfhcddahahdfaa.Fn
open Go.RowKit Go.Proofs.YtjfhcddahahdfaaW.PrintWords Go.Proofs.YtjfhcddahahdfaaW.PrintLast Go.Proofs.YtjfhcddahahdfaaW.PrintMore
attribute [local go_sem] max2_int min2_int max_two min_two max_three min_three max_four min_four   -- for this text's walks alone
set_option linter.unusedVariables false
set_option linter.unusedSimpArgs false

/-! ### slices_Clone_int_int: function 72 (given) -/
def slices_Clone_int_int.f (l0 : List Int) : Option (List Int) := if l0.length < 17592186044416 then some l0 else none
theorem slices_Clone_int_int.app_room {y l : List Int} (h1 : l.length < 17592186044416) (h2 : y = []) : (y.length + l.length) * 8 ≤ 140737488355328 := by
  subst h2; simp; omega
set_option maxHeartbeats 8000000 in
set_option maxRecDepth 100000 in
theorem slices_Clone_int_int.calls (A0 : Option Addr) (c0 : Nat) (l0 : List Int) (r : List Int) (w : World) (hr0 : Kd.C (Kd.int .i64) w A0 l0.length l0) (hc0 : l0.length ≤ c0) (h : slices_Clone_int_int.f l0 = some r) :
    Calls Try.prog 72 #[.slice A0 l0.length c0] w fun e w' => ∃ v0_ : Value, e = .returned (v0_) ∧ Kd.R (Kd.int .i64) 3 w' w.heap.size (fun _ => True) v0_ r ∧ Below w.heap.size w w' := by
  have HR0 := Aside0.mk hr0
  have hlen : l0.length < 17592186044416 := by
    unfold slices_Clone_int_int.f at h
    split at h
    · assumption
    · cases h
  obtain rfl : l0 = r := by
    unfold slices_Clone_int_int.f at h
    rw [if_pos hlen] at h
    exact Option.some.inj h
  have LM := Aside0.mk hlen
  have HB := Aside0.mk (Below.refl w.heap.size w)
  have hu := Try.underlying22
  have heq := fun (w : World) => Lib.run_eql_slice_nil (P := Try.prog) w 22 3 A0 l0.length c0 0 0 hu
  clear h hlen hc0
  cases A0 with
  | none =>
    have hl : l0 = [] := by
      cases l0 with
      | nil => rfl
      | cons x xs =>
        obtain ⟨ad, e, _⟩ := hr0.2.2 (by simp)
        cases e
    have HL := Aside0.mk hl
    clear hr0 hl
    go_enter Try.func72, Try.ntmps72
    go_wp2
    go_ret
    exact ⟨_, rfl, by rw [HL.out]; exact Kd.R_nil _ _ _ _ _, by repeat (first | (with_reducible first | exact HB.out | apply below_alloc | apply pw_below_drewN | apply below_drew1) | exact HB.out)⟩
  | some ad =>
    clear hr0
    obtain ⟨y113, hy113⟩ : ∃ y_ : List Int, y_ = (([] : List Int)) := ⟨_, rfl⟩
    have Ny113 := Aside0.mk hy113
    clear hy113
    obtain ⟨y116, hy116⟩ : ∃ y_ : List Int, y_ = (y113 ++ l0) := ⟨_, rfl⟩
    have Ny116 := Aside0.mk hy116
    clear hy116
    go_enter Try.func72, Try.ntmps72
    go_wp2_with (first | ((with_reducible refine gate_dst (N := 5) rfl ?_); refine Kd.R_lit (Kd.int .i64) _ 3 ?hg (N := 5) ?hd (xs := ([] : List Int)) (inner := []) (ok := fun _ => True) (okp := fun _ => True) ?hr ?hp (fun _ hk => hk) trivial (Below.refl _ _) (Nat.le_refl _) (by simp) ?_; (case hd => rfl); (case hg => rfl); (case hr => first | (go_simp; done) | (go_simp; rfl)); (case hp => exact (Reps.none _ _)); intro v114 w3 ho4 hb hg_ hnew_; clear hg_ hnew_; (first | rw [← Ny113.out] at ho4 | (simp only [Int.reduceToNat] at ho4; rw [← Ny113.out] at ho4)); have n0_ := Aside0.mk (Kd.R_lower ho4 (below_size (by repeat (first | (with_reducible first | exact HB.out | apply below_alloc | apply pw_below_drewN | apply below_drew1) | exact HB.out)))); have n1_ := Aside0.mk (below_step (by repeat (first | (with_reducible first | exact HB.out | apply below_alloc | apply pw_below_drewN | apply below_drew1) | exact HB.out)) hb); clear HB; have HO115 := n0_; have HB := n1_; clear n0_ n1_; clear hb ho4) | ((with_reducible refine gate_builtin (b := .append) (xs := #[.tmp 5, .tmp 6]) rfl ?_); at_builtin; refine Kd.R_append_rows (Kd.int .i64) (w0 := w) w.heap.size rfl (.tmp 5) (.tmp 6) 22 3 (.int .i64 0) 8 rfl Try.underlying22 info3 rfl (by decide) (by omega) v114 y113 l0 _ _ _ (fun _ => True) (fun _ => False) rfl rfl ?aO ?aR (fun _ _ h => h) (fun _ h => h.elim) ?aF ?aB ?aS ?aL ?_; (case aR => repeat (first | exact (Kd.C_below HR0.out HB.out) | (with_reducible refine Kd.C_alloc ?_ _) | (with_reducible refine Kd.C_drewN ?_ _) | (with_reducible refine Kd.C_drew ?_))); (case aB => exact (by repeat (first | (with_reducible first | exact HB.out | apply below_alloc | apply pw_below_drewN | apply below_drew1) | exact HB.out))); (case aF => exact (fun _ _ => trivial)); (case aO => exact (by (with_reducible repeat (first | apply Kd.R_alloc | apply Kd.R_drewN | apply Kd.R_drew)); exact HO115.out)); (case aS => exact (below_size (by repeat (first | (with_reducible first | exact HB.out | apply below_alloc | apply pw_below_drewN | apply below_drew1) | exact HB.out)))); (case aL => exact slices_Clone_int_int.app_room LM.out Ny113.out); intro v117 w5 ho hb hg hat; rw [← Ny116.out] at ho; have n0_ := Aside0.mk (hb); have n1_ := Aside0.mk (ho); clear HB; clear HO115; have HB := n0_; have HO118 := n1_; clear n0_ n1_; clear ho hb hg hat))
    go_ret
    exact ⟨_, rfl, by (with_reducible repeat (first | apply Kd.R_alloc | apply Kd.R_drewN | apply Kd.R_drew)); have h := HO118.out; rw [Ny116.out, Ny113.out, List.nil_append] at h; exact h, by repeat (first | (with_reducible first | exact HB.out | apply below_alloc | apply pw_below_drewN | apply below_drew1) | exact HB.out)⟩


end Go.Proofs.Ytjfhcddahahdfaa.Fn
namespace Go.Proofs.Ytjfhcddahahdfaa.Fn
open Go.RowKit Go.Proofs.YtjfhcddahahdfaaW.PrintWords Go.Proofs.YtjfhcddahahdfaaW.PrintLast Go.Proofs.YtjfhcddahahdfaaW.PrintMore
attribute [local go_sem] max2_int min2_int max_two min_two max_three min_three max_four min_four   -- for this text's walks alone
set_option linter.unusedVariables false
set_option linter.unusedSimpArgs false

/-! ### impl_kind_all: function 78 (given) -/
/-! ### what kind.all calls: each row is kept, until there are too many -/
/-- The rows that were found lie in the variable at bo; none of their blocks is one of X. -/
structure AllI (base bo bm : Nat) (most : Int) (X : Nat → Prop) (xs : List (List Int)) (w : World) : Prop where
  out : ∃ v, w.heap[bo]? = some (.cells #[v] 50 (0, 0)) ∧ Kd.S (Kd.slice 3 (Kd.int .i64)) 22 w base (fun k => ¬ X k) v xs
  most : w.heap[bm]? = some (.cells #[.int .i64 most] 3 (0, 0))
  bo : base ≤ bo
  bm : base ≤ bm
  lt : ∀ k, X k → k < w.heap.size
def eachAll (most : Int) (xs : List (List Int)) (row : List Int) : Option (List (List Int) × Bool) := if xs.length < 5864062014805 then some (xs ++ [row], decide (most < ((xs.length + 1 : Nat) : Int))) else none
set_option maxHeartbeats 8000000 in
set_option maxRecDepth 100000 in
theorem all1_call {base bo bm : Nat} {most : Int} {X : Nat → Prop} (hXo : ¬ X bo) (hXm : ¬ X bm) (xs : List (List Int)) (row : List Int) (A : Option Addr) (c : Nat) (w : World) (hI : AllI base bo bm most X xs w) (hr : Kd.C (Kd.int .i64) w A row.length row) (hc : row.length ≤ c) (hl : row.length ≤ 1000) (hx : xs.length < 5864062014805) :
    Calls Try.prog 86 #[.slice A row.length c, .pointer (some ⟨bo, 0, none⟩), .pointer (some ⟨bm, 0, none⟩)] w fun e w' => e = .returned (.bool (decide (most < ((xs.length + 1 : Nat) : Int)))) ∧ AllI base bo bm most X (xs ++ [row]) w' ∧ Below base w w' ∧ (∀ k, X k → w'.heap[k]? = w.heap[k]?) := by
  obtain ⟨⟨v, h1, h2⟩, h3, h4, h5, h6⟩ := hI
  have HO := Aside0.mk h1
  have HS := Aside0.mk h2
  have HM := Aside0.mk h3
  have H4 := Aside0.mk h4
  have H5 := Aside0.mk h5
  have H6 := Aside0.mk h6
  have HR := Aside0.mk hr
  have HC := Aside0.mk hc
  have HL := Aside0.mk hl
  have HX := Aside0.mk hx
  have HXO := Aside0.mk hXo
  have HXM := Aside0.mk hXm
  clear h1 h2 h3 h4 h5 h6 hr hc hl hx hXo hXm
  have hcl : slices_Clone_int_int.f row = some row := if_pos (by have := HL.out; omega)
  have HCL := Aside0.mk hcl
  clear hcl
  go_enter Try.func86, Try.ntmps86
  go_upto_region 1 with (fail)
  refine start_ (n := 6) (S := fun w' => w'.cell? ⟨bo, 0, none⟩ = some v) (ds := [5]) #[false, false, false, false, false, false] (by kernel_rfl) rfl rfl (show w.drew.cell? ⟨bo, 0, none⟩ = some v from cell_of_one HO.out) (fun hHeld => ?_)
  have HO1 := Aside0.mk (show w.drew.heap[bo]? = some (.cells #[v] 50 (0, 0)) from HO.out)
  have HM1 := Aside0.mk (show w.drew.heap[bm]? = some (.cells #[.int .i64 most] 3 (0, 0)) from HM.out)
  have HS1 := Aside0.mk (Kd.S_drew HS.out)
  have HR1 := Aside0.mk (Kd.C_drew HR.out)
  have HB1 := Aside0.mk (below_drew1 (Below.refl base w))
  have HK1 := Aside0.mk (show ∀ k, X k → w.drew.heap[k]? = w.heap[k]? from fun _ _ => rfl)
  have HL1 := Aside0.mk (show ∀ k, X k → k < w.drew.heap.size from H6.out)
  generalize w.drew = w1 at HO1 HM1 HS1 HR1 HB1 HK1 HL1 hHeld ⊢
  refine take_ (i := 0) (N := some 5) (v := ?_) (a' := ?_) #[true, false, false, false, false, false] rfl rfl (by kernel_rfl) (fun _ _ _ h => h) (Or.inl ⟨by rfl, ?_⟩) hHeld ?_ ?_
  rotate_left
  · rintro w' s0
    go_simp
    with_reducible rfl
  rotate_left
  · simp only [Act.put, List.setIfInBounds_toArray, List.set_cons_zero, List.set_cons_succ, i64_w, i32_w]
    rfl
  refine pure_ (i := 1) (N := some 6) (v := ?_) (a' := ?_) #[true, true, false, false, false, false] rfl rfl (by kernel_rfl) (fun _ _ _ h => h) (Or.inl ⟨by rfl, ?_⟩) ?_ ?_
  rotate_left
  · intro w'
    go_simp
    with_reducible rfl
  rotate_left
  · simp only [Act.put, List.setIfInBounds_toArray, List.set_cons_zero, List.set_cons_succ, i64_w, i32_w]
    rfl
  refine one_ (i := 2) (N := some 7) #[true, true, true, false, false, false] rfl rfl (by kernel_rfl) (by decide) (fun K hK => ?_)
  refine goes_ Try.func72 (by kernel_rfl) rfl #[.slice A row.length c] (by rfl) rfl rfl (by (try simp only [List.map_toArray, List.map_cons, List.map_nil]); first | done | rfl) ?_
  refine (slices_Clone_int_int.calls A c row row w1 HR1.out HC.out HCL.out).mono ?_
  rintro e w2 ⟨v2, rfl, hv2, hb2⟩
  refine ⟨_, rfl, ?_⟩
  have HV2 := Aside0.mk hv2
  have HB2 := Aside0.mk hb2
  have HO2 := Aside0.mk (blk_below HO1.out hb2)
  have HM2 := Aside0.mk (blk_below HM1.out hb2)
  have HS2 := Aside0.mk (Kd.S_below (Kd.S_bound HS1.out) hb2)
  clear hv2 hb2
  refine hK.out _ _ (cell_of_one HO2.out) (fun hHeld => ?_)
  clear hK K
  refine norm_ (a' := ?_) ?_ ?_
  rotate_left
  · show Act.put _ (some 7) _ = _
    simp only [Act.put, List.setIfInBounds_toArray, List.set_cons_zero, List.set_cons_succ, i64_w, i32_w]
    rfl
  obtain ⟨A2, c2, e2⟩ := Kd.R_slice HV2.out
  subst e2
  refine one_ (i := 3) (N := some 8) #[true, true, true, true, false, false] rfl rfl (by kernel_rfl) (by decide) (fun K hK => ?_)
  refine value_ (v := .slice (some ⟨w2.heap.size, 0, none⟩) 1 1) (w1 := w2.alloc (.cells #[.slice A2 row.length c2] 22)) (by rfl) rfl ?_ ?_
  · first | (go_simp; done) | (go_simp; rfl)
  refine hK.out _ _ (cell_of_one (blk_alloc HO2.out _)) (fun hHeld => ?_)
  clear hK K
  refine norm_ (a' := ?_) ?_ ?_
  rotate_left
  · show Act.put _ (some 8) _ = _
    simp only [Act.put, List.setIfInBounds_toArray, List.set_cons_zero, List.set_cons_succ, i64_w, i32_w]
    rfl
  refine one_ (i := 4) (N := some 9) #[true, true, true, true, true, false] rfl rfl (by kernel_rfl) (by decide) (fun K hK => ?_)
  have hsz := HB2.out.size
  have hb1 : base ≤ w1.heap.size := by have := blk_lt HO1.out; have := H4.out; omega
  refine Kd.S_append_step (Kd.slice 3 (Kd.int .i64)) (w0 := w) (W := w2) base (by rfl) (.tmp 5) (.tmp 8) 50 22 (.slice none 0 0) 24 rfl Try.underlying50 info22 rfl (by decide) (by omega) v xs row [.slice A2 row.length c2] (fun k => ¬ X k) (fun k_ => some k_ = (.slice A2 row.length c2 : Value).ownBlock) rfl rfl ?aP ?aK ?aF ?aO ?aB ?aS ?aL ?_
  case aP => exact Kd.M_row (Kd.R_mono (Kd.R_tight rfl (Kd.R_lower HV2.out hb1)) (fun _ h_ => h_))
  case aK =>
    intro k hk
    have h1 := Kd.R_base HV2.out k hk.symm
    exact ⟨fun hx => by have := HL1.out k hx; omega, fun e => by have := Kd.S_lt HS1.out k e.symm; omega⟩
  case aF => exact fun k hk hx => by have := HL1.out k hx; omega
  case aO =>
    refine Kd.S_mono HS2.out (fun k hk => ⟨hk.1, fun e => ?_⟩)
    have h1 := Kd.R_base HV2.out k e.symm
    have := hk.2.2.1
    omega
  case aB => exact HB1.out.trans (HB2.out.mono hb1)
  case aS => omega
  case aL => have := HX.out; omega
  intro v1 w3 hS3 hB3 hg3 hat3
  have HO3 := blk_grown HO2.out hg3 (Kd.S_ne HS2.out HO2.out (by decide))
  have HM3 := Aside0.mk (blk_grown HM2.out hg3 (Kd.S_ne HS2.out HM2.out (by decide)))
  have HK3 := Aside0.mk (show ∀ k, X k → w3.heap[k]? = w.heap[k]? from fun k hk => (hg3.block k (by have := HL1.out k hk; omega) (fun e => ((Kd.S_R HS2.out).1 k e.symm).1 hk)).trans ((HB2.out.block k (HL1.out k hk)).trans (HK1.out k hk)))
  have HB3 := Aside0.mk hB3
  have HS3 := Aside0.mk hS3
  have HL3 := Aside0.mk (show ∀ k, X k → k < w3.heap.size from fun k hk => by have := HL1.out k hk; have := hg3.size; omega)
  clear hsz hb1 hS3 hB3 hg3 hat3
  have hHeld0 := cell_of_one HO3
  have hc3 := hHeld0
  have hf3 := free_of_one HO3
  have HO3 := Aside0.mk HO3
  obtain ⟨A4, c4, e4⟩ := Kd.S_slice HS3.out
  subst e4
  refine hK.out _ _ hHeld0 (fun hHeld => ?_)
  clear hK K
  refine norm_ (a' := ?_) ?_ ?_
  rotate_left
  · show Act.put _ (some 9) _ = _
    simp only [Act.put, List.setIfInBounds_toArray, List.set_cons_zero, List.set_cons_succ, i64_w, i32_w]
    rfl
  refine last_ (i := 5) (N := none) #[true, true, true, true, true, true] rfl rfl (by kernel_rfl) (by decide) (fun K hK => ?_)
  refine skip_ (w1 := w3.setCell ⟨bo, 0, none⟩ (.slice A4 (xs ++ [row]).length c4)) (by rfl) rfl ?_ ?_
  · first | (go_simp; done) | (go_simp; rfl)
  refine hK.out _ _ ?_
  clear hK K
  refine done_ (by kernel_rfl) ?_
  have hno : bo ≠ bm := fun e => by
    have h1 := HO3.out
    rw [e, HM3.out] at h1
    simp at h1
  have HO4 := Aside0.mk (one_setCell (u := (.slice A4 (xs ++ [row]).length c4)) HO3.out)
  have HM4 := Aside0.mk (blk_far HM3.out (show bm ≠ (⟨bo, 0, none⟩ : Addr).block from fun e => hno e.symm) (.slice A4 (xs ++ [row]).length c4))
  have HS4 := Aside0.mk (Kd.S_set HS3.out HO3.out (by decide) 0 (.slice A4 (xs ++ [row]).length c4))
  have HB4 := Aside0.mk (HB3.out.setCell (show base ≤ (⟨bo, 0, none⟩ : Addr).block from H4.out) (.slice A4 (xs ++ [row]).length c4))
  have HK4 := Aside0.mk (show ∀ k, X k → (w3.setCell ⟨bo, 0, none⟩ (.slice A4 (xs ++ [row]).length c4)).heap[k]? = w.heap[k]? from fun k hk => (Below.heap_setCell w3 _ _ k (fun e => HXO.out (by rw [show k = bo from e] at hk; exact hk))).trans (HK3.out k hk))
  have HL4 := Aside0.mk (show ∀ k, X k → k < (w3.setCell ⟨bo, 0, none⟩ (.slice A4 (xs ++ [row]).length c4)).heap.size from fun k hk => by rw [size_setCell]; exact HL3.out k hk)
  clear hno hc3 hf3 hHeld hHeld0
  generalize w3.setCell ⟨bo, 0, none⟩ (.slice A4 (xs ++ [row]).length c4) = w4 at HO4 HM4 HS4 HB4 HK4 HL4 ⊢
  have hc4 := cell_of_one HO4.out
  have hc5 := cell_of_one HM4.out
  have hlen : (xs ++ [row]).length = xs.length + 1 := by simp
  rw [hlen] at hc4
  have HLEN := Aside0.mk hlen
  clear hlen
  go_wp2
  go_ret
  refine ⟨rfl, ⟨⟨_, HO4.out, HS4.out⟩, HM4.out, H4.out, H5.out, HL4.out⟩, HB4.out, HK4.out⟩
theorem AllI.stable {base bo bm : Nat} {most : Int} {X : Nat → Prop} (hXo : ¬ X bo) (hXm : ¬ X bm) {xs : List (List Int)} {w w' : World} (h : AllI base bo bm most X xs w) (hs : w.heap.size ≤ w'.heap.size) (hk : ∀ k, k < w.heap.size → ¬ X k → w'.heap[k]? = w.heap[k]?) : AllI base bo bm most X xs w' := by
  obtain ⟨⟨v, h1, h2⟩, h3, h4, h5, h6⟩ := h
  exact ⟨⟨v, (hk bo (blk_lt h1) hXo).trans h1, Kd.S_step h2 (fun k ho hl => hk k hl ho)⟩, (hk bm (blk_lt h3) hXm).trans h3, h4, h5, fun k hx => Nat.lt_of_lt_of_le (h6 k hx) hs⟩
theorem all1_ok {base bo bm N : Nat} {most : Int} {X : Nat → Prop} (hX : ∀ k, X k → N ≤ k) (hbo : bo < N) (hbm : bm < N) : EachOk base X 86 #[.pointer (some ⟨bo, 0, none⟩), .pointer (some ⟨bm, 0, none⟩)] (eachAll most) (AllI base bo bm most X) := by
  have hXo : ¬ X bo := fun h => by have := hX bo h; omega
  have hXm : ¬ X bm := fun h => by have := hX bm h; omega
  refine ⟨⟨_, Try.func86, by kernel_rfl, rfl⟩, fun s w w' h hs hk => h.stable hXo hXm hs hk, fun s row A c w s' b hI hr hc hl h => ?_⟩
  unfold eachAll at h
  split at h
  · rename_i hx
    obtain ⟨rfl, rfl⟩ := Prod.mk.inj (Option.some.inj h)
    exact all1_call hXo hXm s row A c w hI hr hc hl hx
  · cases h
/-- What kind.all asks of a kind, a function of a function: it comes to the state s', whatever else there is. -/
def KindAll (kf : FuncId) (first caps : Array Value) (base : Nat) (Pre : World → Prop) (most : Int) (xs : List (List Int)) : Prop :=
  ∀ (bo bm : Nat) (w : World), Pre w → base ≤ w.heap.size → base ≤ bo → base ≤ bm → bo < w.heap.size → bm < w.heap.size →
    (∀ (X : Nat → Prop) w', Below w.heap.size w w' → (∀ k, X k → w.heap.size ≤ k ∧ k < w'.heap.size) → AllI base bo bm most X [] w') →
    Calls Try.prog kf (first ++ #[.func (.func 86) #[] #[.pointer (some ⟨bo, 0, none⟩), .pointer (some ⟨bm, 0, none⟩)]] ++ caps) w fun e w' => e = .returned (.tuple #[]) ∧ (∃ X : Nat → Prop, (∀ k, X k → w.heap.size ≤ k) ∧ AllI base bo bm most X xs w') ∧ Below base w w'
section
variable {P : Program} {ops : Array Oper} {Q : Exit → Act → World → Prop}
/-- A call of a function value with arguments of its own. -/
theorem goesW_ {rest : List Oper} {oi : Oper} {a : Act} {w : World} (N : Option Tmp) (hd : oi.dst = N) (hg : oi.guard = none) {f : FuncId} {fn : Func} {p : Tmp} {xs : Array Operand} {ts : Array TypeId} {first caps : Array Value} (hf : P.funcs[f]? = some fn) (hname : (fn.name == "runtime.NumGoroutine") = false) (hb : fn.body.isSome = true) (args : Array Value)
    (hop : oi.op = .call { callee := .value (.tmp p), args := xs, argTypes := ts }) (hv : a.eval (.tmp p) = .func (.func f) first caps) (hargs : xs.map a.eval = args)
    (h : Calls P f (first ++ args ++ caps) w fun e w' => ∃ v, e = .returned v ∧ wpList P ops Q rest (a.put N v) w') : wpList P ops Q (oi :: rest) a w := by
  refine wpList_plain hg fun K hK => ?_
  have he := enters_ hf hname hb (first ++ args ++ caps) w
  have hrun : (execOp a.eval oi).run P w = .ok (.enter f (first ++ args ++ caps)) w := by
    rw [Array.append_assoc] at he ⊢
    unfold execOp
    simp [hop, resolve, Deferred.ofValue, invoke, hv, hargs, he]
  unfold Oper.wp
  rw [hrun, Oper.upon_enter]
  refine h.mono fun e w'' hh => ?_
  obtain ⟨v, rfl, hk⟩ := hh
  subst hd
  exact hK _ _ hk
end
set_option maxHeartbeats 8000000 in
set_option maxRecDepth 100000 in
theorem kind_all_call {kf : FuncId} {kfn : Func} {first caps : Array Value} {Pre : World → Prop} {most : Int} {xs : List (List Int)} (w : World) (hf1 : Try.prog.funcs[kf]? = some kfn) (hf2 : (kfn.name == "runtime.NumGoroutine") = false) (hf3 : kfn.body.isSome = true) (hP : ∀ w', Below w.heap.size w w' → Pre w') (h : KindAll kf first caps w.heap.size Pre most xs) (r1 : List (List Int)) (r2 : Bool) (hr1 : r1 = if (xs.length : Int) ≤ most then xs else []) (hr2 : r2 = decide ((xs.length : Int) ≤ most)) :
    Calls Try.prog 78 #[.func (.func kf) first caps, .int .i64 most] w fun e w' => ∃ v0_ : Value, e = .returned (.tuple #[v0_, .bool r2]) ∧ Kd.S (Kd.slice 3 (Kd.int .i64)) 22 w' w.heap.size (fun _ => True) v0_ r1 ∧ Below w.heap.size w w' := by
  have HF1 := Aside0.mk hf1
  have HF2 := Aside0.mk hf2
  have HF3 := Aside0.mk hf3
  have HP := Aside0.mk hP
  have H := Aside0.mk h
  clear hf1 hf2 hf3 hP h
  go_enter Try.func78, Try.ntmps78
  go_upto_region 2 with (fail)
  have hb1 : Below w.heap.size w ((w.alloc (.cells #[.int .i64 most] 3)).alloc (.cells #[.slice none 0 0] 50)) := below_alloc (below_alloc (Below.refl _ _) _) _
  have hm1 : ((w.alloc (.cells #[.int .i64 most] 3)).alloc (.cells #[.slice none 0 0] 50)).heap[w.heap.size]? = some (.cells #[.int .i64 most] 3 (0, 0)) := heap_alloc2_old w _ _
  have ho1 : ((w.alloc (.cells #[.int .i64 most] 3)).alloc (.cells #[.slice none 0 0] 50)).heap[w.heap.size + 1]? = some (.cells #[.slice none 0 0] 50 (0, 0)) := heap_alloc2_new w _ _
  have HB1 := Aside0.mk hb1
  have HM1 := Aside0.mk hm1
  have HO1 := Aside0.mk ho1
  clear hb1 hm1 ho1
  generalize ((w.alloc (.cells #[.int .i64 most] 3)).alloc (.cells #[.slice none 0 0] 50)) = w2 at HB1 HM1 HO1 ⊢
  have HCALL := Aside0.mk (H.out (w.heap.size + 1) w.heap.size w2 (HP.out w2 HB1.out) HB1.out.size (Nat.le_succ _) (Nat.le_refl _) (blk_lt HO1.out) (blk_lt HM1.out) (fun X w' hb hX => ⟨⟨_, blk_below HO1.out hb, Kd.S_nil _ _ _ _ _⟩, blk_below HM1.out hb, Nat.le_succ _, Nat.le_refl _, fun k hk => (hX k hk).2⟩))
  by_cases hle : (xs.length : Int) ≤ most
  · have b1 : decide (most < (xs.length : Int)) = false := decide_eq_false (by omega)
    rw [if_pos hle] at hr1
    rw [decide_eq_true hle] at hr2
    subst hr1
    subst hr2
    clear hle
    go_wp2_with (first | ((with_reducible refine gate_value (p := 7) rfl ?_); refine goesW_ (some 9) rfl rfl HF1.out HF2.out HF3.out #[.func (.func 86) #[] #[.pointer (some ⟨w.heap.size + 1, 0, none⟩), .pointer (some ⟨w.heap.size, 0, none⟩)]] rfl (by first | rfl | (simp [Act.eval]; done)) (by (try simp only [List.map_toArray, List.map_cons, List.map_nil]); first | done | rfl) ?_; refine HCALL.out.mono ?_; rintro e w3 ⟨rfl, ⟨X, hX, hI⟩, hB⟩; refine ⟨_, rfl, ?_⟩; obtain ⟨⟨v3, ho, hs⟩, hm, _, _, _⟩ := hI; obtain ⟨A3, c3, e3⟩ := Kd.S_slice hs; subst e3; have hc1 := cell_of_one ho; have hc2 := cell_of_one hm; have HS3 := Aside0.mk hs; have HB3 := Aside0.mk hB; clear hX ho hs hm hB))
    go_ret2
    exact ⟨_, rfl, Kd.S_mono HS3.out (fun _ _ => trivial), HB1.out.trans HB3.out⟩
  · have b1 : decide (most < (xs.length : Int)) = true := decide_eq_true (by omega)
    rw [if_neg hle] at hr1
    rw [decide_eq_false hle] at hr2
    subst hr1
    subst hr2
    clear hle
    go_wp2_with (first | ((with_reducible refine gate_value (p := 7) rfl ?_); refine goesW_ (some 9) rfl rfl HF1.out HF2.out HF3.out #[.func (.func 86) #[] #[.pointer (some ⟨w.heap.size + 1, 0, none⟩), .pointer (some ⟨w.heap.size, 0, none⟩)]] rfl (by first | rfl | (simp [Act.eval]; done)) (by (try simp only [List.map_toArray, List.map_cons, List.map_nil]); first | done | rfl) ?_; refine HCALL.out.mono ?_; rintro e w3 ⟨rfl, ⟨X, hX, hI⟩, hB⟩; refine ⟨_, rfl, ?_⟩; obtain ⟨⟨v3, ho, hs⟩, hm, _, _, _⟩ := hI; obtain ⟨A3, c3, e3⟩ := Kd.S_slice hs; subst e3; have hc1 := cell_of_one ho; have hc2 := cell_of_one hm; have HS3 := Aside0.mk hs; have HB3 := Aside0.mk hB; clear hX ho hs hm hB))
    go_ret2
    exact ⟨_, rfl, Kd.S_nil _ _ _ _ _, HB1.out.trans HB3.out⟩


end Go.Proofs.Ytjfhcddahahdfaa.Fn
namespace Go.Proofs.Ytjfhcddahahdfaa.Fn
open Go.RowKit Go.Proofs.YtjfhcddahahdfaaW.PrintWords Go.Proofs.YtjfhcddahahdfaaW.PrintLast Go.Proofs.YtjfhcddahahdfaaW.PrintMore
attribute [local go_sem] max2_int min2_int max_two min_two max_three min_three max_four min_four   -- for this text's walks alone
set_option linter.unusedVariables false
set_option linter.unusedSimpArgs false

/-! ### impl_sought: function 53 -/
def impl_sought.f (a0 : Int) : Option (Bool) := if a0 ≥ 1 then (some (decide (a0 ≤ 9))) else (some false)
set_option maxHeartbeats 8000000 in
set_option maxRecDepth 100000 in
theorem impl_sought.calls (a0 : Int) (r : Bool) (w : World) (h : impl_sought.f a0 = some r) :
    Calls Try.prog 53 #[.int .i64 a0] w fun e w' => e = .returned (.bool r) ∧ Drawn0 w w' := by
  have H : (if a0 ≥ 1 then (some (decide (a0 ≤ 9))) else (some false)) = some r := h
  clear h
  by_cases c2 : a0 ≥ 1
  · rw [if_pos c2] at H
    have c2b0 : decide (1 ≤ a0) = true := decide_eq_true c2
    clear c2
    obtain rfl := Option.some.inj H
    go_enter Try.func53, Try.ntmps53
    go_wp2
    go_ret
    exact ⟨by first | rfl | (simp; done) | (simp [*]; done), by repeat (first | exact Drawn0.refl _ | apply Drawn0.step)⟩
  · rw [if_neg c2] at H
    have c2b0 : decide (1 ≤ a0) = false := decide_eq_false c2
    clear c2
    obtain rfl := Option.some.inj H
    go_enter Try.func53, Try.ntmps53
    go_wp2
    go_ret
    exact ⟨by first | rfl | (simp; done) | (simp [*]; done), by repeat (first | exact Drawn0.refl _ | apply Drawn0.step)⟩


end Go.Proofs.Ytjfhcddahahdfaa.Fn
namespace Go.Proofs.Ytjfhcddahahdfaa.Fn
open Go.RowKit Go.Proofs.YtjfhcddahahdfaaW.PrintWords Go.Proofs.YtjfhcddahahdfaaW.PrintLast Go.Proofs.YtjfhcddahahdfaaW.PrintMore
attribute [local go_sem] max2_int min2_int max_two min_two max_three min_three max_four min_four   -- for this text's walks alone
set_option linter.unusedVariables false
set_option linter.unusedSimpArgs false

/-! ### impl_isShift: function 54 -/
def impl_isShift.f (a0 : Int) : Option (Bool) := if a0 = 0 then (some true) else (some (a0 == 1))
set_option maxHeartbeats 8000000 in
set_option maxRecDepth 100000 in
theorem impl_isShift.calls (a0 : Int) (r : Bool) (w : World) (h : impl_isShift.f a0 = some r) :
    Calls Try.prog 54 #[.int .i64 a0] w fun e w' => e = .returned (.bool r) ∧ Drawn0 w w' := by
  have H : (if a0 = 0 then (some true) else (some (a0 == 1))) = some r := h
  clear h
  by_cases c2 : a0 = 0
  · rw [if_pos c2] at H
    have c2b0 : (a0 == 0) = true := beq_iff_eq.mpr c2
    have c2b1 : (a0 != 0) = false := bne_eq_false_iff_eq.mpr c2
    clear c2
    obtain rfl := Option.some.inj H
    go_enter Try.func54, Try.ntmps54
    go_wp2
    go_ret
    exact ⟨by first | rfl | (simp; done) | (simp [*]; done), by repeat (first | exact Drawn0.refl _ | apply Drawn0.step)⟩
  · rw [if_neg c2] at H
    have c2b0 : (a0 == 0) = false := beq_eq_false_iff_ne.mpr c2
    have c2b1 : (a0 != 0) = true := bne_iff_ne.mpr c2
    obtain rfl := Option.some.inj H
    go_enter Try.func54, Try.ntmps54
    go_wp2
    go_ret
    exact ⟨by first | rfl | (simp; done) | (simp [*]; done), by repeat (first | exact Drawn0.refl _ | apply Drawn0.step)⟩


end Go.Proofs.Ytjfhcddahahdfaa.Fn
namespace Go.Proofs.Ytjfhcddahahdfaa.Fn
open Go.RowKit Go.Proofs.YtjfhcddahahdfaaW.PrintWords Go.Proofs.YtjfhcddahahdfaaW.PrintLast Go.Proofs.YtjfhcddahahdfaaW.PrintMore
attribute [local go_sem] max2_int min2_int max_two min_two max_three min_three max_four min_four   -- for this text's walks alone
set_option linter.unusedVariables false
set_option linter.unusedSimpArgs false

/-! ### impl_Puzzle_among: function 55 -/
def impl_Puzzle_among.f (l0_0 : List Int) (a0_1 : Int) (a0_2 : Int) (a1 : Int) : Option (Bool) := if a1 ≥ a0_1 then (some (decide (a1 < (wrap64 (a0_1 + (wrap64 ((l0_0.length : Int) / 2))))))) else (some false)
set_option maxHeartbeats 8000000 in
set_option maxRecDepth 100000 in
theorem impl_Puzzle_among.calls (A0_0 : Option Addr) (c0_0 : Nat) (l0_0 : List Int) (a0_1 : Int) (a0_2 : Int) (a1 : Int) (r : Bool) (w : World) (hr0_0 : Kd.C (Kd.int .i64) w A0_0 l0_0.length l0_0) (hc0_0 : l0_0.length ≤ c0_0) (h : impl_Puzzle_among.f l0_0 a0_1 a0_2 a1 = some r) :
    Calls Try.prog 55 #[.agg #[.slice A0_0 l0_0.length c0_0, .int .i64 a0_1, .int .i64 a0_2], .int .i64 a1] w fun e w' => e = .returned (.bool r) ∧ Below w.heap.size w w' := by
  have hu27 := Try.underlying27
  have HR0_0 := Aside0.mk hr0_0
  have HC0_0 := Aside0.mk hc0_0
  clear hr0_0 hc0_0
  have HB := Aside0.mk (Below.refl w.heap.size w)
  have H : (if a1 ≥ a0_1 then (some (decide (a1 < (wrap64 (a0_1 + (wrap64 ((l0_0.length : Int) / 2))))))) else (some false)) = some r := h
  clear h
  by_cases c3 : a1 ≥ a0_1
  · rw [if_pos c3] at H
    have c3b0 : decide (a0_1 ≤ a1) = true := decide_eq_true c3
    clear c3
    obtain rfl := Option.some.inj H
    go_enter Try.func55, Try.ntmps55
    go_wp2_with (first | ((with_reducible refine gate_dst (N := 2) rfl ?_); (try (refine gate_guard (by rfl) ?_; dsimp only)); refine box_event ?hg (N := 2) ?hd (cs := #[.slice A0_0 l0_0.length c0_0, .int .i64 a0_1, .int .i64 a0_2]) (t := 27) ?hr ?_; (case hd => rfl); (case hg => rfl); (case hr => first | (go_simp; done) | (go_simp; rfl)); intro gb122 hg w4 hbox hb; have n0_ := Aside0.mk (below_step (by repeat (first | (with_reducible first | exact HB.out | apply below_alloc | apply pw_below_drewN | apply below_drew1) | exact HB.out)) hb); have n1_ := Aside0.mk (hbox); have n2_ := Aside0.mk ((by rw [hg]; exact (below_size (by repeat (first | (with_reducible first | exact HB.out | apply below_alloc | apply pw_below_drewN | apply below_drew1) | exact HB.out))) : w.heap.size ≤ gb122)); have n3_ := Aside0.mk ((by rw [hg]; exact (below_size (by repeat (first | (with_reducible first | exact HB.out | apply below_alloc | apply pw_below_drewN | apply below_drew1) | exact HB.out))) : w.heap.size ≤ gb122)); clear HB; have HB := n0_; have BK122 := n1_; have GW122 := n2_; have GE122 := n3_; clear n0_ n1_ n2_ n3_; clear hb hbox hg; have hcz5_0 : w4.cell? ⟨gb122, 0, none⟩ = some (.slice A0_0 l0_0.length c0_0) := (blk_cell BK122.out 0).trans rfl; have hcz5_1 : w4.cell? ⟨gb122, 1, none⟩ = some (.int .i64 a0_1) := (blk_cell BK122.out 1).trans rfl; have hcz5_2 : w4.cell? ⟨gb122, 2, none⟩ = some (.int .i64 a0_2) := (blk_cell BK122.out 2).trans rfl; have hfz5_0 := blk_frozen BK122.out 0; have hfz5_1 := blk_frozen BK122.out 1; have hfz5_2 := blk_frozen BK122.out 2))
    go_ret
    exact ⟨by first | rfl | (simp [errW_none, errW_some] <;> rfl) | (simp [*, errW_none, errW_some] <;> rfl), by repeat (first | (with_reducible first | exact HB.out | apply below_alloc | apply pw_below_drewN | apply below_drew1 | refine below_set ?_ GE122.out) | exact HB.out)⟩
  · rw [if_neg c3] at H
    have c3b0 : decide (a0_1 ≤ a1) = false := decide_eq_false c3
    clear c3
    obtain rfl := Option.some.inj H
    go_enter Try.func55, Try.ntmps55
    go_wp2_with (first | ((with_reducible refine gate_dst (N := 2) rfl ?_); (try (refine gate_guard (by rfl) ?_; dsimp only)); refine box_event ?hg (N := 2) ?hd (cs := #[.slice A0_0 l0_0.length c0_0, .int .i64 a0_1, .int .i64 a0_2]) (t := 27) ?hr ?_; (case hd => rfl); (case hg => rfl); (case hr => first | (go_simp; done) | (go_simp; rfl)); intro gb122 hg w6 hbox hb; have n0_ := Aside0.mk (below_step (by repeat (first | (with_reducible first | exact HB.out | apply below_alloc | apply pw_below_drewN | apply below_drew1) | exact HB.out)) hb); have n1_ := Aside0.mk (hbox); have n2_ := Aside0.mk ((by rw [hg]; exact (below_size (by repeat (first | (with_reducible first | exact HB.out | apply below_alloc | apply pw_below_drewN | apply below_drew1) | exact HB.out))) : w.heap.size ≤ gb122)); have n3_ := Aside0.mk ((by rw [hg]; exact (below_size (by repeat (first | (with_reducible first | exact HB.out | apply below_alloc | apply pw_below_drewN | apply below_drew1) | exact HB.out))) : w.heap.size ≤ gb122)); clear HB; have HB := n0_; have BK122 := n1_; have GW122 := n2_; have GE122 := n3_; clear n0_ n1_ n2_ n3_; clear hb hbox hg; have hcz7_0 : w6.cell? ⟨gb122, 0, none⟩ = some (.slice A0_0 l0_0.length c0_0) := (blk_cell BK122.out 0).trans rfl; have hcz7_1 : w6.cell? ⟨gb122, 1, none⟩ = some (.int .i64 a0_1) := (blk_cell BK122.out 1).trans rfl; have hcz7_2 : w6.cell? ⟨gb122, 2, none⟩ = some (.int .i64 a0_2) := (blk_cell BK122.out 2).trans rfl; have hfz7_0 := blk_frozen BK122.out 0; have hfz7_1 := blk_frozen BK122.out 1; have hfz7_2 := blk_frozen BK122.out 2))
    go_ret
    exact ⟨by first | rfl | (simp [errW_none, errW_some] <;> rfl) | (simp [*, errW_none, errW_some] <;> rfl), by repeat (first | (with_reducible first | exact HB.out | apply below_alloc | apply pw_below_drewN | apply below_drew1 | refine below_set ?_ GE122.out) | exact HB.out)⟩


end Go.Proofs.Ytjfhcddahahdfaa.Fn
namespace Go.Proofs.Ytjfhcddahahdfaa.Fn
open Go.RowKit Go.Proofs.YtjfhcddahahdfaaW.PrintWords Go.Proofs.YtjfhcddahahdfaaW.PrintLast Go.Proofs.YtjfhcddahahdfaaW.PrintMore
attribute [local go_sem] max2_int min2_int max_two min_two max_three min_three max_four min_four   -- for this text's walks alone
set_option linter.unusedVariables false
set_option linter.unusedSimpArgs false

/-! ### impl_IsPuzzle: function 18 -/
mutual
def impl_IsPuzzle.j0 : Nat → Bool → List Int → Int → Int → Option (Bool)
  | 0, _, _, _, _ => none
  | k + 1, x43, x124000, x124001, x124002 => if x43 = true then (some false) else (impl_IsPuzzle.l0 k x124000 (x124000.length : Int) 0 x124000 x124001 x124002)
def impl_IsPuzzle.l0 : Nat → List Int → Int → Int → List Int → Int → Int → Option (Bool)
  | 0, _, _, _, _, _, _ => none
  | k + 1, x45, x46, x47, x124000, x124001, x124002 => if x47 < x46 then (if 0 ≤ x47 then (if x47 < (x45.length : Int) then (if (rd x45 x47) = 0 then (impl_IsPuzzle.l0 k x45 x46 (wrap64 (x47 + 1)) x124000 x124001 x124002) else ((impl_Puzzle_among.f x124000 x124001 x124002 (rd x45 x47)).bind fun t127 => (if t127 = true then (impl_IsPuzzle.l0 k x45 x46 (wrap64 (x47 + 1)) x124000 x124001 x124002) else (some false)))) else (none)) else (none)) else (some true)
end
def impl_IsPuzzle.f (k : Nat) (l0_0 : List Int) (a0_1 : Int) (a0_2 : Int) : Option (Bool) := if ((l0_0.length : Int) % 2) = 1 then (impl_IsPuzzle.j0 k true l0_0 a0_1 a0_2) else ((impl_sought.f (wrap64 ((l0_0.length : Int) / 2))).bind fun t124 => (if t124 = true then (if a0_1 < 1 then (impl_IsPuzzle.j0 k true l0_0 a0_1 a0_2) else (if a0_1 > 20 then (impl_IsPuzzle.j0 k true l0_0 a0_1 a0_2) else (if (wrap64 ((wrap64 (a0_1 + (wrap64 ((l0_0.length : Int) / 2)))) - 1)) > 20 then (impl_IsPuzzle.j0 k true l0_0 a0_1 a0_2) else ((impl_isShift.f a0_2).bind fun t125 => (impl_IsPuzzle.j0 k (!t125) l0_0 a0_1 a0_2))))) else (impl_IsPuzzle.j0 k true l0_0 a0_1 a0_2)))
theorem impl_IsPuzzle.mono_l : ∀ k, (∀ y0 y1 y2 y3, LeO (impl_IsPuzzle.j0 k y0 y1 y2 y3) (impl_IsPuzzle.j0 (k + 1) y0 y1 y2 y3)) ∧ (∀ y0 y1 y2 y3 y4 y5, LeO (impl_IsPuzzle.l0 k y0 y1 y2 y3 y4 y5) (impl_IsPuzzle.l0 (k + 1) y0 y1 y2 y3 y4 y5))
  | 0 => ⟨fun _ _ _ _ r h => by simp [impl_IsPuzzle.j0] at h, fun _ _ _ _ _ _ r h => by simp [impl_IsPuzzle.l0] at h⟩
  | k + 1 => by
    obtain ⟨ih0, ih1⟩ := impl_IsPuzzle.mono_l k
    refine ⟨?_, ?_⟩
    · intro y0 y1 y2 y3
      unfold impl_IsPuzzle.j0
      repeat' first
      | (with_reducible exact ih0 _ _ _ _)
      | (with_reducible exact ih1 _ _ _ _ _ _)
      | (with_reducible exact LeO.refl _)
      | (with_reducible exact LeO.none _)
      | (with_reducible refine LeO.ite ?_ ?_)
      | (with_reducible refine LeO.bind ?_ (fun _ => ?_))
      | exact ih0 _ _ _ _
      | exact ih1 _ _ _ _ _ _
      | exact LeO.none _
      | refine LeO.ite ?_ ?_
      | refine LeO.bind ?_ (fun _ => ?_)
    · intro y0 y1 y2 y3 y4 y5
      unfold impl_IsPuzzle.l0
      repeat' first
      | (with_reducible exact ih0 _ _ _ _)
      | (with_reducible exact ih1 _ _ _ _ _ _)
      | (with_reducible exact LeO.refl _)
      | (with_reducible exact LeO.none _)
      | (with_reducible refine LeO.ite ?_ ?_)
      | (with_reducible refine LeO.bind ?_ (fun _ => ?_))
      | exact ih0 _ _ _ _
      | exact ih1 _ _ _ _ _ _
      | exact LeO.none _
      | refine LeO.ite ?_ ?_
      | refine LeO.bind ?_ (fun _ => ?_)
theorem impl_IsPuzzle.mono : ∀ a0 a1 a2 k, LeO (impl_IsPuzzle.f k a0 a1 a2) (impl_IsPuzzle.f (k + 1) a0 a1 a2) := by
  intro a0 a1 a2 k
  obtain ⟨ih0, ih1⟩ := impl_IsPuzzle.mono_l k
  unfold impl_IsPuzzle.f
  repeat' first
      | (with_reducible exact ih0 _ _ _ _)
      | (with_reducible exact ih1 _ _ _ _ _ _)
      | (with_reducible exact LeO.refl _)
      | (with_reducible exact LeO.none _)
      | (with_reducible refine LeO.ite ?_ ?_)
      | (with_reducible refine LeO.bind ?_ (fun _ => ?_))
      | exact ih0 _ _ _ _
      | exact ih1 _ _ _ _ _ _
      | exact LeO.none _
      | refine LeO.ite ?_ ?_
      | refine LeO.bind ?_ (fun _ => ?_)
set_option maxHeartbeats 8000000 in
set_option maxRecDepth 100000 in
theorem impl_IsPuzzle.calls (k : Nat) (A0_0 : Option Addr) (c0_0 : Nat) (l0_0 : List Int) (a0_1 : Int) (a0_2 : Int) (r : Bool) (w : World) (hr0_0 : Kd.C (Kd.int .i64) w A0_0 l0_0.length l0_0) (hc0_0 : l0_0.length ≤ c0_0) (h : impl_IsPuzzle.f k l0_0 a0_1 a0_2 = some r) :
    Calls Try.prog 18 #[.agg #[.slice A0_0 l0_0.length c0_0, .int .i64 a0_1, .int .i64 a0_2]] w fun e w' => e = .returned (.bool r) ∧ Below w.heap.size w w' := by
  have hu27 := Try.underlying27
  have HR0_0 := Aside0.mk hr0_0
  have HC0_0 := Aside0.mk hc0_0
  clear hr0_0 hc0_0
  have HB := Aside0.mk (Below.refl w.heap.size w)
  have H : (if ((l0_0.length : Int) % 2) = 1 then (impl_IsPuzzle.j0 k true l0_0 a0_1 a0_2) else ((impl_sought.f (wrap64 ((l0_0.length : Int) / 2))).bind fun t124 => (if t124 = true then (if a0_1 < 1 then (impl_IsPuzzle.j0 k true l0_0 a0_1 a0_2) else (if a0_1 > 20 then (impl_IsPuzzle.j0 k true l0_0 a0_1 a0_2) else (if (wrap64 ((wrap64 (a0_1 + (wrap64 ((l0_0.length : Int) / 2)))) - 1)) > 20 then (impl_IsPuzzle.j0 k true l0_0 a0_1 a0_2) else ((impl_isShift.f a0_2).bind fun t125 => (impl_IsPuzzle.j0 k (!t125) l0_0 a0_1 a0_2))))) else (impl_IsPuzzle.j0 k true l0_0 a0_1 a0_2)))) = some r := h
  clear h
  have HC2 := Aside0.mk H
  clear H
  go_enter Try.func18, Try.ntmps18
  go_upto_region 2 with (first | ((with_reducible refine gate_dst (N := 1) rfl ?_); refine box_event ?hg (N := 1) ?hd (cs := #[.slice A0_0 l0_0.length c0_0, .int .i64 a0_1, .int .i64 a0_2]) (t := 27) ?hr ?_; (case hd => rfl); (case hg => rfl); (case hr => first | (go_simp; done) | (go_simp; rfl)); intro gb123 hg w3 hbox hb; have n0_ := Aside0.mk (below_step (by repeat (first | (with_reducible first | exact HB.out | apply below_alloc | apply pw_below_drewN | apply below_drew1) | exact HB.out)) hb); have n1_ := Aside0.mk (hbox); have n2_ := Aside0.mk ((by rw [hg]; exact (below_size (by repeat (first | (with_reducible first | exact HB.out | apply below_alloc | apply pw_below_drewN | apply below_drew1) | exact HB.out))) : w.heap.size ≤ gb123)); have n3_ := Aside0.mk ((by rw [hg]; exact (below_size (by repeat (first | (with_reducible first | exact HB.out | apply below_alloc | apply pw_below_drewN | apply below_drew1) | exact HB.out))) : w.heap.size ≤ gb123)); clear HB; have HB := n0_; have BK123 := n1_; have GW123 := n2_; have GE123 := n3_; clear n0_ n1_ n2_ n3_; clear hb hbox hg; have hcz4_0 : w3.cell? ⟨gb123, 0, none⟩ = some (.slice A0_0 l0_0.length c0_0) := (blk_cell BK123.out 0).trans rfl; have hcz4_1 : w3.cell? ⟨gb123, 1, none⟩ = some (.int .i64 a0_1) := (blk_cell BK123.out 1).trans rfl; have hcz4_2 : w3.cell? ⟨gb123, 2, none⟩ = some (.int .i64 a0_2) := (blk_cell BK123.out 2).trans rfl; have hfz4_0 := blk_frozen BK123.out 0; have hfz4_1 := blk_frozen BK123.out 1; have hfz4_2 := blk_frozen BK123.out 2))
  (try simp only [Act.put, List.setIfInBounds_toArray, List.set_cons_zero, List.set_cons_succ])
  go_cut [43] (fun v43 wc => ∃ (kq : Nat) (x43_1 : Bool), v43 = .bool x43_1 ∧ Aside0 (impl_IsPuzzle.j0 kq x43_1 l0_0 a0_1 a0_2 = some r) ∧ Aside0 (kq ≤ k) ∧ Aside0 (wc.heap[gb123]? = some (.cells #[(.slice A0_0 l0_0.length c0_0), .int .i64 a0_1, .int .i64 a0_2] 27 (0, 0))) ∧ Aside0 (Below w.heap.size w wc))
  case first =>
    have H := HC2.out
    clear HC2
    by_cases c5 : ((l0_0.length : Int) % 2) = 1
    · rw [if_pos c5] at H
      have c5b0 : (((l0_0.length : Int) % 2) == 1) = true := beq_iff_eq.mpr c5
      have c5b1 : (((l0_0.length : Int) % 2) != 1) = false := bne_eq_false_iff_eq.mpr c5
      clear c5
      (first | rw [c5b0] | (simp only [i64_w, i32_w]; rw [c5b0]) | skip)
      have H' := Aside0.mk H
      clear H
      have hcz6_0 : w3.cell? ⟨gb123, 0, none⟩ = some (.slice A0_0 l0_0.length c0_0) := (blk_cell BK123.out 0).trans rfl
      have hcz6_1 : w3.cell? ⟨gb123, 1, none⟩ = some (.int .i64 a0_1) := (blk_cell BK123.out 1).trans rfl
      have hcz6_2 : w3.cell? ⟨gb123, 2, none⟩ = some (.int .i64 a0_2) := (blk_cell BK123.out 2).trans rfl
      have hfz6_0 := blk_frozen BK123.out 0
      have hfz6_1 := blk_frozen BK123.out 1
      have hfz6_2 := blk_frozen BK123.out 2
      go_wp2
      go_meet
      case rel => exact ⟨_, (true), (by first | rfl | (simp; done) | (simp [*]; done)), H', ⟨by first | omega | exact Nat.le_refl _⟩, ⟨by (with_reducible repeat (first | refine blk_drewN ?_ _ | refine blk_drew ?_ | refine blk_alloc ?_ _)); exact BK123.out⟩, ⟨by repeat (first | (with_reducible first | exact HB.out | apply below_alloc | apply pw_below_drewN | apply below_drew1 | refine below_set ?_ GE123.out) | exact HB.out)⟩⟩
    · rw [if_neg c5] at H
      have c5b0 : (((l0_0.length : Int) % 2) == 1) = false := beq_eq_false_iff_ne.mpr c5
      have c5b1 : (((l0_0.length : Int) % 2) != 1) = true := bne_iff_ne.mpr c5
      (first | rw [c5b0] | (simp only [i64_w, i32_w]; rw [c5b0]) | skip)
      replace H := Option.bind_eq_some_iff.mp H
      obtain ⟨t124, A70, H⟩ := H
      replace H : (if t124 = true then (if a0_1 < 1 then (impl_IsPuzzle.j0 k true l0_0 a0_1 a0_2) else (if a0_1 > 20 then (impl_IsPuzzle.j0 k true l0_0 a0_1 a0_2) else (if (wrap64 ((wrap64 (a0_1 + (wrap64 ((l0_0.length : Int) / 2)))) - 1)) > 20 then (impl_IsPuzzle.j0 k true l0_0 a0_1 a0_2) else ((impl_isShift.f a0_2).bind fun t125 => (impl_IsPuzzle.j0 k (!t125) l0_0 a0_1 a0_2))))) else (impl_IsPuzzle.j0 k true l0_0 a0_1 a0_2)) = some r := H
      have A7 := Aside0.mk A70
      clear A70
      by_cases c8 : t124 = true
      · subst c8
        have H1 : (if a0_1 < 1 then (impl_IsPuzzle.j0 k true l0_0 a0_1 a0_2) else (if a0_1 > 20 then (impl_IsPuzzle.j0 k true l0_0 a0_1 a0_2) else (if (wrap64 ((wrap64 (a0_1 + (wrap64 ((l0_0.length : Int) / 2)))) - 1)) > 20 then (impl_IsPuzzle.j0 k true l0_0 a0_1 a0_2) else ((impl_isShift.f a0_2).bind fun t125 => (impl_IsPuzzle.j0 k (!t125) l0_0 a0_1 a0_2))))) = some r := by rw [if_pos rfl] at H; exact H
        clear H
        have H := H1
        clear H1
        by_cases c9 : a0_1 < 1
        · rw [if_pos c9] at H
          have c9b0 : decide (a0_1 < 1) = true := decide_eq_true c9
          clear c9
          have H' := Aside0.mk H
          clear H
          have hcz10_0 : w3.cell? ⟨gb123, 0, none⟩ = some (.slice A0_0 l0_0.length c0_0) := (blk_cell BK123.out 0).trans rfl
          have hcz10_1 : w3.cell? ⟨gb123, 1, none⟩ = some (.int .i64 a0_1) := (blk_cell BK123.out 1).trans rfl
          have hcz10_2 : w3.cell? ⟨gb123, 2, none⟩ = some (.int .i64 a0_2) := (blk_cell BK123.out 2).trans rfl
          have hfz10_0 := blk_frozen BK123.out 0
          have hfz10_1 := blk_frozen BK123.out 1
          have hfz10_2 := blk_frozen BK123.out 2
          go_wp2_with (first | (go_at_call 53; (with_reducible refine (impl_sought.calls (wrap64 ((l0_0.length : Int) / 2)) true _ A7.out).mono ?_); rintro e w' ⟨rfl, ⟨nd, rfl⟩⟩))
          go_meet
          case rel => exact ⟨_, (true), (by first | rfl | (simp; done) | (simp [*]; done)), H', ⟨by first | omega | exact Nat.le_refl _⟩, ⟨by (with_reducible repeat (first | refine blk_drewN ?_ _ | refine blk_drew ?_ | refine blk_alloc ?_ _)); exact BK123.out⟩, ⟨by repeat (first | (with_reducible first | exact HB.out | apply below_alloc | apply pw_below_drewN | apply below_drew1 | refine below_set ?_ GE123.out) | exact HB.out)⟩⟩
        · rw [if_neg c9] at H
          have c9b0 : decide (a0_1 < 1) = false := decide_eq_false c9
          clear c9
          by_cases c11 : a0_1 > 20
          · rw [if_pos c11] at H
            have c11b0 : decide (20 < a0_1) = true := decide_eq_true c11
            clear c11
            have H' := Aside0.mk H
            clear H
            have hcz12_0 : w3.cell? ⟨gb123, 0, none⟩ = some (.slice A0_0 l0_0.length c0_0) := (blk_cell BK123.out 0).trans rfl
            have hcz12_1 : w3.cell? ⟨gb123, 1, none⟩ = some (.int .i64 a0_1) := (blk_cell BK123.out 1).trans rfl
            have hcz12_2 : w3.cell? ⟨gb123, 2, none⟩ = some (.int .i64 a0_2) := (blk_cell BK123.out 2).trans rfl
            have hfz12_0 := blk_frozen BK123.out 0
            have hfz12_1 := blk_frozen BK123.out 1
            have hfz12_2 := blk_frozen BK123.out 2
            go_wp2_with (first | (go_at_call 53; (with_reducible refine (impl_sought.calls (wrap64 ((l0_0.length : Int) / 2)) true _ A7.out).mono ?_); rintro e w' ⟨rfl, ⟨nd, rfl⟩⟩))
            go_meet
            case rel => exact ⟨_, (true), (by first | rfl | (simp; done) | (simp [*]; done)), H', ⟨by first | omega | exact Nat.le_refl _⟩, ⟨by (with_reducible repeat (first | refine blk_drewN ?_ _ | refine blk_drew ?_ | refine blk_alloc ?_ _)); exact BK123.out⟩, ⟨by repeat (first | (with_reducible first | exact HB.out | apply below_alloc | apply pw_below_drewN | apply below_drew1 | refine below_set ?_ GE123.out) | exact HB.out)⟩⟩
          · rw [if_neg c11] at H
            have c11b0 : decide (20 < a0_1) = false := decide_eq_false c11
            clear c11
            by_cases c13 : (wrap64 ((wrap64 (a0_1 + (wrap64 ((l0_0.length : Int) / 2)))) - 1)) > 20
            · rw [if_pos c13] at H
              have c13b0 : decide (20 < (wrap64 ((wrap64 (a0_1 + (wrap64 ((l0_0.length : Int) / 2)))) - 1))) = true := decide_eq_true c13
              clear c13
              have H' := Aside0.mk H
              clear H
              have hcz14_0 : w3.cell? ⟨gb123, 0, none⟩ = some (.slice A0_0 l0_0.length c0_0) := (blk_cell BK123.out 0).trans rfl
              have hcz14_1 : w3.cell? ⟨gb123, 1, none⟩ = some (.int .i64 a0_1) := (blk_cell BK123.out 1).trans rfl
              have hcz14_2 : w3.cell? ⟨gb123, 2, none⟩ = some (.int .i64 a0_2) := (blk_cell BK123.out 2).trans rfl
              have hfz14_0 := blk_frozen BK123.out 0
              have hfz14_1 := blk_frozen BK123.out 1
              have hfz14_2 := blk_frozen BK123.out 2
              go_wp2_with (first | (go_at_call 53; (with_reducible refine (impl_sought.calls (wrap64 ((l0_0.length : Int) / 2)) true _ A7.out).mono ?_); rintro e w' ⟨rfl, ⟨nd, rfl⟩⟩))
              go_meet
              case rel => exact ⟨_, (true), (by first | rfl | (simp; done) | (simp [*]; done)), H', ⟨by first | omega | exact Nat.le_refl _⟩, ⟨by (with_reducible repeat (first | refine blk_drewN ?_ _ | refine blk_drew ?_ | refine blk_alloc ?_ _)); exact BK123.out⟩, ⟨by repeat (first | (with_reducible first | exact HB.out | apply below_alloc | apply pw_below_drewN | apply below_drew1 | refine below_set ?_ GE123.out) | exact HB.out)⟩⟩
            · rw [if_neg c13] at H
              have c13b0 : decide (20 < (wrap64 ((wrap64 (a0_1 + (wrap64 ((l0_0.length : Int) / 2)))) - 1))) = false := decide_eq_false c13
              clear c13
              replace H := Option.bind_eq_some_iff.mp H
              obtain ⟨t125, A150, H⟩ := H
              replace H : (impl_IsPuzzle.j0 k (!t125) l0_0 a0_1 a0_2) = some r := H
              have A15 := Aside0.mk A150
              clear A150
              have H' := Aside0.mk H
              clear H
              have hcz16_0 : w3.cell? ⟨gb123, 0, none⟩ = some (.slice A0_0 l0_0.length c0_0) := (blk_cell BK123.out 0).trans rfl
              have hcz16_1 : w3.cell? ⟨gb123, 1, none⟩ = some (.int .i64 a0_1) := (blk_cell BK123.out 1).trans rfl
              have hcz16_2 : w3.cell? ⟨gb123, 2, none⟩ = some (.int .i64 a0_2) := (blk_cell BK123.out 2).trans rfl
              have hfz16_0 := blk_frozen BK123.out 0
              have hfz16_1 := blk_frozen BK123.out 1
              have hfz16_2 := blk_frozen BK123.out 2
              go_wp2_with (first | (go_at_call 53; (with_reducible refine (impl_sought.calls (wrap64 ((l0_0.length : Int) / 2)) true _ A7.out).mono ?_); rintro e w' ⟨rfl, ⟨nd, rfl⟩⟩) | (go_at_call 54; (with_reducible refine (impl_isShift.calls a0_2 t125 _ A15.out).mono ?_); rintro e w' ⟨rfl, ⟨nd, rfl⟩⟩))
              go_meet
              case rel => exact ⟨_, (!t125), (by first | rfl | (simp; done) | (simp [*]; done)), H', ⟨by first | omega | exact Nat.le_refl _⟩, ⟨by (with_reducible repeat (first | refine blk_drewN ?_ _ | refine blk_drew ?_ | refine blk_alloc ?_ _)); exact BK123.out⟩, ⟨by repeat (first | (with_reducible first | exact HB.out | apply below_alloc | apply pw_below_drewN | apply below_drew1 | refine below_set ?_ GE123.out) | exact HB.out)⟩⟩
      · replace c8 := Bool.eq_false_iff.mpr c8
        subst c8
        have H1 : (impl_IsPuzzle.j0 k true l0_0 a0_1 a0_2) = some r := by rw [if_neg (show ¬ (false = true) by decide)] at H; exact H
        clear H
        have H := H1
        clear H1
        have H' := Aside0.mk H
        clear H
        have hcz17_0 : w3.cell? ⟨gb123, 0, none⟩ = some (.slice A0_0 l0_0.length c0_0) := (blk_cell BK123.out 0).trans rfl
        have hcz17_1 : w3.cell? ⟨gb123, 1, none⟩ = some (.int .i64 a0_1) := (blk_cell BK123.out 1).trans rfl
        have hcz17_2 : w3.cell? ⟨gb123, 2, none⟩ = some (.int .i64 a0_2) := (blk_cell BK123.out 2).trans rfl
        have hfz17_0 := blk_frozen BK123.out 0
        have hfz17_1 := blk_frozen BK123.out 1
        have hfz17_2 := blk_frozen BK123.out 2
        go_wp2_with (first | (go_at_call 53; (with_reducible refine (impl_sought.calls (wrap64 ((l0_0.length : Int) / 2)) false _ A7.out).mono ?_); rintro e w' ⟨rfl, ⟨nd, rfl⟩⟩))
        go_meet
        case rel => exact ⟨_, (true), (by first | rfl | (simp; done) | (simp [*]; done)), H', ⟨by first | omega | exact Nat.le_refl _⟩, ⟨by (with_reducible repeat (first | refine blk_drewN ?_ _ | refine blk_drew ?_ | refine blk_alloc ?_ _)); exact BK123.out⟩, ⟨by repeat (first | (with_reducible first | exact HB.out | apply below_alloc | apply pw_below_drewN | apply below_drew1 | refine below_set ?_ GE123.out) | exact HB.out)⟩⟩
  case rest =>
    clear HC2
    try clear c1
    try clear p2
    try clear c5
    try clear c5b0
    try clear c5b1
    try clear p6
    try clear c8
    try clear c9
    try clear c9b0
    try clear c11
    try clear c11b0
    try clear c13
    try clear c13b0
    try clear hcz10_0
    try clear hcz10_1
    try clear hcz10_2
    try clear hcz12_0
    try clear hcz12_1
    try clear hcz12_2
    try clear hcz14_0
    try clear hcz14_1
    try clear hcz14_2
    try clear hcz16_0
    try clear hcz16_1
    try clear hcz16_2
    try clear hcz17_0
    try clear hcz17_1
    try clear hcz17_2
    try clear hcz4_0
    try clear hcz4_1
    try clear hcz4_2
    try clear hcz6_0
    try clear hcz6_1
    try clear hcz6_2
    try clear hfz10_0
    try clear hfz10_1
    try clear hfz10_2
    try clear hfz12_0
    try clear hfz12_1
    try clear hfz12_2
    try clear hfz14_0
    try clear hfz14_1
    try clear hfz14_2
    try clear hfz16_0
    try clear hfz16_1
    try clear hfz16_2
    try clear hfz17_0
    try clear hfz17_1
    try clear hfz17_2
    try clear hfz4_0
    try clear hfz4_1
    try clear hfz4_2
    try clear hfz6_0
    try clear hfz6_1
    try clear hfz6_2
    obtain ⟨kq, x43_1, rfl, HA, HJ1, BK123, HB⟩ := hcut
    cases kq with
    | zero => exact absurd HA.out (by simp [impl_IsPuzzle.j0])
    | succ kj1 =>
      have H := HA.out
      clear HA
      simp only [impl_IsPuzzle.j0] at H
      by_cases c18 : x43_1 = true
      · subst c18
        have H1 : (some false) = some r := by rw [if_pos rfl] at H; exact H
        clear H
        have H := H1
        clear H1
        obtain rfl := Option.some.inj H
        go_wp2
        go_ret
        exact ⟨by first | rfl | (simp [errW_none, errW_some] <;> rfl) | (simp [*, errW_none, errW_some] <;> rfl), by repeat (first | (with_reducible first | exact HB.out | apply below_alloc | apply pw_below_drewN | apply below_drew1 | refine below_set ?_ GE123.out) | exact HB.out)⟩
      · replace c18 := Bool.eq_false_iff.mpr c18
        subst c18
        have H1 : (impl_IsPuzzle.l0 kj1 l0_0 (l0_0.length : Int) 0 l0_0 a0_1 a0_2) = some r := by rw [if_neg (show ¬ (false = true) by decide)] at H; exact H
        clear H
        have H := H1
        clear H1
        have H' := Aside0.mk H
        clear H
        have hcz19_0 : wc.cell? ⟨gb123, 0, none⟩ = some (.slice A0_0 l0_0.length c0_0) := (blk_cell BK123.out 0).trans rfl
        have hcz19_1 : wc.cell? ⟨gb123, 1, none⟩ = some (.int .i64 a0_1) := (blk_cell BK123.out 1).trans rfl
        have hcz19_2 : wc.cell? ⟨gb123, 2, none⟩ = some (.int .i64 a0_2) := (blk_cell BK123.out 2).trans rfl
        have hfz19_0 := blk_frozen BK123.out 0
        have hfz19_1 := blk_frozen BK123.out 1
        have hfz19_2 := blk_frozen BK123.out 2
        go_wp2
        go_loopg [47] kj1 (fun kq v47 w' => ∃ (x47_2 : Int), v47 = .int .i64 x47_2 ∧ Aside0 (impl_IsPuzzle.l0 kq l0_0 (l0_0.length : Int) x47_2 l0_0 a0_1 a0_2 = some r) ∧ Aside0 (kq ≤ kj1) ∧ Aside0 (w'.heap[gb123]? = some (.cells #[(.slice A0_0 l0_0.length c0_0), .int .i64 a0_1, .int .i64 a0_2] 27 (0, 0))) ∧ Aside0 (Below w.heap.size w w'))
        case atStart => exact ⟨(0), (by first | rfl | (simp; done) | (simp [*]; done)), H', ⟨Nat.le_refl _⟩, ⟨by (with_reducible repeat (first | refine blk_drewN ?_ _ | refine blk_drew ?_ | refine blk_alloc ?_ _)); exact BK123.out⟩, ⟨by repeat (first | (with_reducible first | exact HB.out | apply below_alloc | apply pw_below_drewN | apply below_drew1 | refine below_set ?_ GE123.out) | exact HB.out)⟩⟩
        case round =>
          clear H'
          try clear c1
          try clear p2
          try clear c5
          try clear c5b0
          try clear c5b1
          try clear p6
          try clear c8
          try clear c9
          try clear c9b0
          try clear c11
          try clear c11b0
          try clear c13
          try clear c13b0
          try clear c18
          try clear hcz10_0
          try clear hcz10_1
          try clear hcz10_2
          try clear hcz12_0
          try clear hcz12_1
          try clear hcz12_2
          try clear hcz14_0
          try clear hcz14_1
          try clear hcz14_2
          try clear hcz16_0
          try clear hcz16_1
          try clear hcz16_2
          try clear hcz17_0
          try clear hcz17_1
          try clear hcz17_2
          try clear hcz19_0
          try clear hcz19_1
          try clear hcz19_2
          try clear hcz4_0
          try clear hcz4_1
          try clear hcz4_2
          try clear hcz6_0
          try clear hcz6_1
          try clear hcz6_2
          try clear hfz10_0
          try clear hfz10_1
          try clear hfz10_2
          try clear hfz12_0
          try clear hfz12_1
          try clear hfz12_2
          try clear hfz14_0
          try clear hfz14_1
          try clear hfz14_2
          try clear hfz16_0
          try clear hfz16_1
          try clear hfz16_2
          try clear hfz17_0
          try clear hfz17_1
          try clear hfz17_2
          try clear hfz19_0
          try clear hfz19_1
          try clear hfz19_2
          try clear hfz4_0
          try clear hfz4_1
          try clear hfz4_2
          try clear hfz6_0
          try clear hfz6_1
          try clear hfz6_2
          try clear p2
          try clear p6
          obtain ⟨x47_2, rfl, HA, HK2, BK123, HB⟩ := hrel
          cases gk with
          | zero => exact absurd HA.out (by simp [impl_IsPuzzle.l0])
          | succ k2 =>
            have H := HA.out
            clear HA
            simp only [impl_IsPuzzle.l0] at H
            by_cases c20 : x47_2 < (l0_0.length : Int)
            · rw [if_pos c20] at H
              have c20b0 : decide (x47_2 < (l0_0.length : Int)) = true := decide_eq_true c20
              clear c20
              by_cases c21 : 0 ≤ x47_2
              · rw [if_pos c21] at H
                have c21b0 : decide (0 ≤ x47_2) = true := decide_eq_true c21
                clear c21
                by_cases c22 : x47_2 < (l0_0.length : Int)
                · rw [if_pos c22] at H
                  have c22b0 : decide (x47_2 < (l0_0.length : Int)) = true := decide_eq_true c22
                  clear c22
                  by_cases c23 : (rd l0_0 x47_2) = 0
                  · rw [if_pos c23] at H
                    have c23b0 : ((rd l0_0 x47_2) == 0) = true := beq_iff_eq.mpr c23
                    have c23b1 : ((rd l0_0 x47_2) != 0) = false := bne_eq_false_iff_eq.mpr c23
                    clear c23
                    have H' := Aside0.mk H
                    clear H
                    have p126 : 0 ≤ (x47_2 : Int) := of_decide_eq_true (by first | (with_reducible assumption) | assumption)
                    have q126 : x47_2 < (l0_0.length : Int) := of_decide_eq_true (by first | (with_reducible assumption) | assumption)
                    obtain ⟨ad126, e126, hx126_0⟩ := Kd.at_int HR0_0.out x47_2 p126 q126
                    cases e126
                    replace hx126_0 := (HB.out.cell (World.block_lt_of_cell? w _ hx126_0)).trans hx126_0
                    replace p126 := eq_true p126
                    replace q126 := eq_true q126
                    go_wp2
                    go_roundg k2
                    case measure => have := HJ1.out; have := HK2.out; omega
                    case rel => exact ⟨(wrap64 (x47_2 + 1)), (by first | rfl | (simp; done) | (simp [*]; done)), H', ⟨by have := HJ1.out; have := HK2.out; omega⟩, ⟨by (with_reducible repeat (first | refine blk_drewN ?_ _ | refine blk_drew ?_ | refine blk_alloc ?_ _)); exact BK123.out⟩, ⟨by repeat (first | (with_reducible first | exact HB.out | apply below_alloc | apply pw_below_drewN | apply below_drew1 | refine below_set ?_ GE123.out) | exact HB.out)⟩⟩
                  · rw [if_neg c23] at H
                    have c23b0 : ((rd l0_0 x47_2) == 0) = false := beq_eq_false_iff_ne.mpr c23
                    have c23b1 : ((rd l0_0 x47_2) != 0) = true := bne_iff_ne.mpr c23
                    replace H := Option.bind_eq_some_iff.mp H
                    obtain ⟨t127, A240, H⟩ := H
                    replace H : (if t127 = true then (impl_IsPuzzle.l0 k2 l0_0 (l0_0.length : Int) (wrap64 (x47_2 + 1)) l0_0 a0_1 a0_2) else (some false)) = some r := H
                    have A24 := Aside0.mk A240
                    clear A240
                    by_cases c25 : t127 = true
                    · subst c25
                      have H1 : (impl_IsPuzzle.l0 k2 l0_0 (l0_0.length : Int) (wrap64 (x47_2 + 1)) l0_0 a0_1 a0_2) = some r := by rw [if_pos rfl] at H; exact H
                      clear H
                      have H := H1
                      clear H1
                      have H' := Aside0.mk H
                      clear H
                      have p126 : 0 ≤ (x47_2 : Int) := of_decide_eq_true (by first | (with_reducible assumption) | assumption)
                      have q126 : x47_2 < (l0_0.length : Int) := of_decide_eq_true (by first | (with_reducible assumption) | assumption)
                      obtain ⟨ad126, e126, hx126_0⟩ := Kd.at_int HR0_0.out x47_2 p126 q126
                      cases e126
                      replace hx126_0 := (HB.out.cell (World.block_lt_of_cell? w _ hx126_0)).trans hx126_0
                      replace p126 := eq_true p126
                      replace q126 := eq_true q126
                      have hcz26_0 : wr.cell? ⟨gb123, 0, none⟩ = some (.slice (some ad126) l0_0.length c0_0) := (blk_cell BK123.out 0).trans rfl
                      have hcz26_1 : wr.cell? ⟨gb123, 1, none⟩ = some (.int .i64 a0_1) := (blk_cell BK123.out 1).trans rfl
                      have hcz26_2 : wr.cell? ⟨gb123, 2, none⟩ = some (.int .i64 a0_2) := (blk_cell BK123.out 2).trans rfl
                      have hfz26_0 := blk_frozen BK123.out 0
                      have hfz26_1 := blk_frozen BK123.out 1
                      have hfz26_2 := blk_frozen BK123.out 2
                      go_wp2_with (first | (go_at_call 55; (with_reducible refine (impl_Puzzle_among.calls _ _ l0_0 a0_1 a0_2 (rd l0_0 x47_2) true _ ?side1 ?side2 A24.out).mono ?_); (case side1 => repeat (first | exact (Kd.C_below HR0_0.out HB.out) | (with_reducible refine Kd.C_alloc ?_ _) | (with_reducible refine Kd.C_drewN ?_ _) | (with_reducible refine Kd.C_drew ?_))); (case side2 => exact HC0_0.out); rintro e w27 ⟨rfl, hb⟩; have n0_ := Aside0.mk (blk_below (g := gb123) (o := .cells #[.slice (some ad126) l0_0.length c0_0, .int .i64 a0_1, .int .i64 a0_2] 27 (0, 0)) (by (with_reducible repeat (first | refine blk_drewN ?_ _ | refine blk_drew ?_ | refine blk_alloc ?_ _)); exact BK123.out) hb); have n1_ := Aside0.mk (below_step (by repeat (first | (with_reducible first | exact HB.out | apply below_alloc | apply pw_below_drewN | apply below_drew1 | refine below_set ?_ GE123.out) | exact HB.out)) hb); clear BK123; clear HB; have BK123 := n0_; have HB := n1_; clear n0_ n1_; (try clear hb); (try clear hb2); (try clear hk); (try clear hi)))
                      go_roundg k2
                      case measure => have := HJ1.out; have := HK2.out; omega
                      case rel => exact ⟨(wrap64 (x47_2 + 1)), (by first | rfl | (simp; done) | (simp [*]; done)), H', ⟨by have := HJ1.out; have := HK2.out; omega⟩, ⟨by (with_reducible repeat (first | refine blk_drewN ?_ _ | refine blk_drew ?_ | refine blk_alloc ?_ _)); exact BK123.out⟩, ⟨by repeat (first | (with_reducible first | exact HB.out | apply below_alloc | apply pw_below_drewN | apply below_drew1 | refine below_set ?_ GE123.out) | exact HB.out)⟩⟩
                    · replace c25 := Bool.eq_false_iff.mpr c25
                      subst c25
                      have H1 : (some false) = some r := by rw [if_neg (show ¬ (false = true) by decide)] at H; exact H
                      clear H
                      have H := H1
                      clear H1
                      obtain rfl := Option.some.inj H
                      have p126 : 0 ≤ (x47_2 : Int) := of_decide_eq_true (by first | (with_reducible assumption) | assumption)
                      have q126 : x47_2 < (l0_0.length : Int) := of_decide_eq_true (by first | (with_reducible assumption) | assumption)
                      obtain ⟨ad126, e126, hx126_0⟩ := Kd.at_int HR0_0.out x47_2 p126 q126
                      cases e126
                      replace hx126_0 := (HB.out.cell (World.block_lt_of_cell? w _ hx126_0)).trans hx126_0
                      replace p126 := eq_true p126
                      replace q126 := eq_true q126
                      have hcz28_0 : wr.cell? ⟨gb123, 0, none⟩ = some (.slice (some ad126) l0_0.length c0_0) := (blk_cell BK123.out 0).trans rfl
                      have hcz28_1 : wr.cell? ⟨gb123, 1, none⟩ = some (.int .i64 a0_1) := (blk_cell BK123.out 1).trans rfl
                      have hcz28_2 : wr.cell? ⟨gb123, 2, none⟩ = some (.int .i64 a0_2) := (blk_cell BK123.out 2).trans rfl
                      have hfz28_0 := blk_frozen BK123.out 0
                      have hfz28_1 := blk_frozen BK123.out 1
                      have hfz28_2 := blk_frozen BK123.out 2
                      go_wp2_with (first | (go_at_call 55; (with_reducible refine (impl_Puzzle_among.calls _ _ l0_0 a0_1 a0_2 (rd l0_0 x47_2) false _ ?side1 ?side2 A24.out).mono ?_); (case side1 => repeat (first | exact (Kd.C_below HR0_0.out HB.out) | (with_reducible refine Kd.C_alloc ?_ _) | (with_reducible refine Kd.C_drewN ?_ _) | (with_reducible refine Kd.C_drew ?_))); (case side2 => exact HC0_0.out); rintro e w29 ⟨rfl, hb⟩; have n0_ := Aside0.mk (blk_below (g := gb123) (o := .cells #[.slice (some ad126) l0_0.length c0_0, .int .i64 a0_1, .int .i64 a0_2] 27 (0, 0)) (by (with_reducible repeat (first | refine blk_drewN ?_ _ | refine blk_drew ?_ | refine blk_alloc ?_ _)); exact BK123.out) hb); have n1_ := Aside0.mk (below_step (by repeat (first | (with_reducible first | exact HB.out | apply below_alloc | apply pw_below_drewN | apply below_drew1 | refine below_set ?_ GE123.out) | exact HB.out)) hb); clear BK123; clear HB; have BK123 := n0_; have HB := n1_; clear n0_ n1_; (try clear hb); (try clear hb2); (try clear hk); (try clear hi)))
                      go_ret
                      exact ⟨by first | rfl | (simp [errW_none, errW_some] <;> rfl) | (simp [*, errW_none, errW_some] <;> rfl), by repeat (first | (with_reducible first | exact HB.out | apply below_alloc | apply pw_below_drewN | apply below_drew1 | refine below_set ?_ GE123.out) | exact HB.out)⟩
                · rw [if_neg c22] at H
                  exact absurd H (by simp)
              · rw [if_neg c21] at H
                exact absurd H (by simp)
            · rw [if_neg c20] at H
              have c20b0 : decide (x47_2 < (l0_0.length : Int)) = false := decide_eq_false c20
              clear c20
              obtain rfl := Option.some.inj H
              go_wp2
              go_ret
              exact ⟨by first | rfl | (simp [errW_none, errW_some] <;> rfl) | (simp [*, errW_none, errW_some] <;> rfl), by repeat (first | (with_reducible first | exact HB.out | apply below_alloc | apply pw_below_drewN | apply below_drew1 | refine below_set ?_ GE123.out) | exact HB.out)⟩

noncomputable def impl_IsPuzzle.J0 (x43 : Bool) (x124000 : List Int) (x124001 : Int) (x124002 : Int) : Option (Bool) := lim fun k => impl_IsPuzzle.j0 k x43 x124000 x124001 x124002
theorem impl_IsPuzzle.J0_lim (x43 : Bool) (x124000 : List Int) (x124001 : Int) (x124002 : Int) : Lim (fun k => impl_IsPuzzle.j0 k x43 x124000 x124001 x124002) (impl_IsPuzzle.J0 x43 x124000 x124001 x124002) := Lim.of fun k => (impl_IsPuzzle.mono_l k).1 x43 x124000 x124001 x124002
noncomputable def impl_IsPuzzle.L0 (x45 : List Int) (x46 : Int) (x47 : Int) (x124000 : List Int) (x124001 : Int) (x124002 : Int) : Option (Bool) := lim fun k => impl_IsPuzzle.l0 k x45 x46 x47 x124000 x124001 x124002
theorem impl_IsPuzzle.L0_lim (x45 : List Int) (x46 : Int) (x47 : Int) (x124000 : List Int) (x124001 : Int) (x124002 : Int) : Lim (fun k => impl_IsPuzzle.l0 k x45 x46 x47 x124000 x124001 x124002) (impl_IsPuzzle.L0 x45 x46 x47 x124000 x124001 x124002) := Lim.of fun k => (impl_IsPuzzle.mono_l k).2 x45 x46 x47 x124000 x124001 x124002
noncomputable def impl_IsPuzzle.F (l0_0 : List Int) (a0_1 : Int) (a0_2 : Int) : Option (Bool) := lim fun k => impl_IsPuzzle.f k l0_0 a0_1 a0_2
theorem impl_IsPuzzle.F_lim (l0_0 : List Int) (a0_1 : Int) (a0_2 : Int) : Lim (fun k => impl_IsPuzzle.f k l0_0 a0_1 a0_2) (impl_IsPuzzle.F l0_0 a0_1 a0_2) := Lim.of fun k => impl_IsPuzzle.mono l0_0 a0_1 a0_2 k
theorem impl_IsPuzzle.J0_eq (x43 : Bool) (x124000 : List Int) (x124001 : Int) (x124002 : Int) : impl_IsPuzzle.J0 x43 x124000 x124001 x124002 = (if x43 = true then (some false) else (impl_IsPuzzle.L0 x124000 (x124000.length : Int) 0 x124000 x124001 x124002)) :=
  Lim.step (f := fun k => (if x43 = true then (some false) else (impl_IsPuzzle.l0 k x124000 (x124000.length : Int) 0 x124000 x124001 x124002))) (impl_IsPuzzle.J0_lim x43 x124000 x124001 x124002) (fun k => by first | rfl | rw [impl_IsPuzzle.j0]) (by
    repeat' first
    | (with_reducible exact Lim.const _)
    | (with_reducible exact impl_IsPuzzle.L0_lim _ _ _ _ _ _)
    | (with_reducible refine Lim.ite ?_ ?_)
    | (with_reducible refine Lim.bind ?_ (fun _ => ?_)))
theorem impl_IsPuzzle.L0_eq (x45 : List Int) (x46 : Int) (x47 : Int) (x124000 : List Int) (x124001 : Int) (x124002 : Int) : impl_IsPuzzle.L0 x45 x46 x47 x124000 x124001 x124002 = (if x47 < x46 then (if 0 ≤ x47 then (if x47 < (x45.length : Int) then (if (rd x45 x47) = 0 then (impl_IsPuzzle.L0 x45 x46 (wrap64 (x47 + 1)) x124000 x124001 x124002) else ((impl_Puzzle_among.f x124000 x124001 x124002 (rd x45 x47)).bind fun t127 => (if t127 = true then (impl_IsPuzzle.L0 x45 x46 (wrap64 (x47 + 1)) x124000 x124001 x124002) else (some false)))) else (none)) else (none)) else (some true)) :=
  Lim.step (f := fun k => (if x47 < x46 then (if 0 ≤ x47 then (if x47 < (x45.length : Int) then (if (rd x45 x47) = 0 then (impl_IsPuzzle.l0 k x45 x46 (wrap64 (x47 + 1)) x124000 x124001 x124002) else ((impl_Puzzle_among.f x124000 x124001 x124002 (rd x45 x47)).bind fun t127 => (if t127 = true then (impl_IsPuzzle.l0 k x45 x46 (wrap64 (x47 + 1)) x124000 x124001 x124002) else (some false)))) else (none)) else (none)) else (some true))) (impl_IsPuzzle.L0_lim x45 x46 x47 x124000 x124001 x124002) (fun k => by first | rfl | rw [impl_IsPuzzle.l0]) (by
    repeat' first
    | (with_reducible exact Lim.const _)
    | (with_reducible exact impl_IsPuzzle.L0_lim _ _ _ _ _ _)
    | (with_reducible refine Lim.ite ?_ ?_)
    | (with_reducible refine Lim.bind ?_ (fun _ => ?_)))
theorem impl_IsPuzzle.F_eq (l0_0 : List Int) (a0_1 : Int) (a0_2 : Int) : impl_IsPuzzle.F l0_0 a0_1 a0_2 = (if ((l0_0.length : Int) % 2) = 1 then (impl_IsPuzzle.J0 true l0_0 a0_1 a0_2) else ((impl_sought.f (wrap64 ((l0_0.length : Int) / 2))).bind fun t124 => (if t124 = true then (if a0_1 < 1 then (impl_IsPuzzle.J0 true l0_0 a0_1 a0_2) else (if a0_1 > 20 then (impl_IsPuzzle.J0 true l0_0 a0_1 a0_2) else (if (wrap64 ((wrap64 (a0_1 + (wrap64 ((l0_0.length : Int) / 2)))) - 1)) > 20 then (impl_IsPuzzle.J0 true l0_0 a0_1 a0_2) else ((impl_isShift.f a0_2).bind fun t125 => (impl_IsPuzzle.J0 (!t125) l0_0 a0_1 a0_2))))) else (impl_IsPuzzle.J0 true l0_0 a0_1 a0_2)))) :=
  Lim.unique (impl_IsPuzzle.F_lim l0_0 a0_1 a0_2) (by
    unfold impl_IsPuzzle.f
    repeat' first
    | (with_reducible exact Lim.const _)
    | (with_reducible exact impl_IsPuzzle.J0_lim _ _ _ _)
    | (with_reducible refine Lim.ite ?_ ?_)
    | (with_reducible refine Lim.bind ?_ (fun _ => ?_)))

end Go.Proofs.Ytjfhcddahahdfaa.Fn
namespace Go.Proofs.Ytjfhcddahahdfaa.Fn
open Go.RowKit Go.Proofs.YtjfhcddahahdfaaW.PrintWords Go.Proofs.YtjfhcddahahdfaaW.PrintLast Go.Proofs.YtjfhcddahahdfaaW.PrintMore
attribute [local go_sem] max2_int min2_int max_two min_two max_three min_three max_four min_four   -- for this text's walks alone
set_option linter.unusedVariables false
set_option linter.unusedSimpArgs false

/-! ### impl_Puzzle_solve: function 77 (given) -/
/-! ### solve: the two rows are made and filled -/
section
variable {P : Program} {ops : Array Oper} {rest : List Oper} {o : Oper} {a : Act} {Q : Exit → Act → World → Prop} {W : World} {K : Act → World → Prop}
theorem made_zeros (n : Nat) : madeCells (Value.int .i64 0).cells (n * 1) = ((List.replicate n (0 : Int)).map (Value.int .i64)).toArray := by
  apply Array.ext'
  simp only [madeCells, Value.cells, Nat.mul_one]
  rw [List.map_replicate, List.eq_replicate_iff]
  simp [Nat.mod_one]
theorem run_zeros (W : World) (n : Nat) (hl : n ≤ 1000) : (Instr.makeSlice 22 (.int .i64 (n : Int)) (.int .i64 (n : Int))).run Try.prog W = .ok (.slice (some ⟨W.heap.size, 0, none⟩) n n) (W.alloc (.cells ((List.replicate n (0 : Int)).map (Value.int .i64)).toArray 3)) := by
  obtain ⟨i0, hi, hzz⟩ := Option.map_eq_some_iff.1 info3
  simp only [Prod.mk.injEq] at hzz
  obtain ⟨hz0, hz1, hz2⟩ := hzz
  have hr := run_make (P := Try.prog) W 22 3 i0 (.int .i64 0) Try.underlying22 hi hz0 .i64 .i64 (n : Int) (n : Int) (by omega) (by omega) (by rw [hz2]; omega) (by omega)
  simp only [Int.toNat_natCast] at hr
  rw [hz1, made_zeros] at hr
  exact hr
theorem IB_below {w w1 : World} {g : Nat} {l : List Int} (h : IB w g l) (hb : Below w.heap.size w w1) : IB w1 g l := blk_below h hb
theorem cell_below {w w1 : World} {g j : Nat} {v : Value} (h : w.cell? ⟨g, j, none⟩ = some v) (hb : Below w.heap.size w w1) : w1.cell? ⟨g, j, none⟩ = some v := (hb.cell (World.block_lt_of_cell? w _ h)).trans h
theorem IB_make_step {n : Nat} {N : Option Tmp} {x y : Operand} (hw : Region.wanted o (yielded ops a.tmps) = true) (hd : o.dst = N) (ho : o.op = .makeSlice 22 x y) (hx : a.eval x = .int .i64 (n : Int)) (hy : a.eval y = .int .i64 (n : Int)) (hl : n ≤ 1000)
    (h : ∀ w1, IB w1 W.heap.size (List.replicate n 0) → Below W.heap.size W w1 → K (a.put N (.slice (some ⟨W.heap.size, 0, none⟩) n n)) w1) : if Region.wanted o (yielded ops a.tmps) = true then Oper.wp Try.prog o a W K Q else K (a.put N undef) W := by
  refine value_ hw hd (v := .slice (some ⟨W.heap.size, 0, none⟩) n n) (w1 := W.alloc (.cells ((List.replicate n (0 : Int)).map (Value.int .i64)).toArray 3)) ?_ (h _ (heap_alloc_new _ _) (below_alloc (Below.refl _ _) _))
  simp [execOp, ho, hx, hy, run_zeros W n hl]
end
theorem set_at {pre : List Int} {i n : Nat} {v : Int} (hp : pre.length = i) (hi : i < n) : (pre ++ List.replicate (n - i) 0).set i v = (pre ++ [v]) ++ List.replicate (n - (i + 1)) 0 := by
  have e : n - i = (n - (i + 1)) + 1 := by omega
  rw [e, List.replicate_succ, List.set_append_right _ _ (by omega), hp, Nat.sub_self]
  simp
def numbersUp (a : Int) (n : Nat) : List Int := (List.range n).map fun i : Nat => a + (i : Int)
theorem numbersUp_succ (a : Int) (n : Nat) : numbersUp a (n + 1) = numbersUp a n ++ [a + (n : Int)] := by
  simp [numbersUp, List.range_succ]
theorem numbersUp_len (a : Int) (n : Nat) : (numbersUp a n).length = n := by simp [numbersUp]
theorem mem_numbersUp {a x : Int} {n : Nat} (h : x ∈ numbersUp a n) : a ≤ x ∧ x < a + n := by
  obtain ⟨i, hi, rfl⟩ := List.mem_map.1 h
  have := List.mem_range.1 hi
  omega
set_option maxHeartbeats 16000000 in
set_option maxRecDepth 100000 in
theorem solve_call {σ : Type} {base : Nat} {fid : FuncId} {ecaps : Array Value} {each : σ → List Int → Option (σ × Bool)} {I : (Nat → Prop) → σ → World → Prop} (kf : Nat) (row : List Int) (ad : Addr) (cr : Nat) (from_ shift : Int) (s s' : σ) (b : Bool) (w : World) (hr0 : 0 < row.length) (hr1 : row.length ≤ 100) (hfr : 0 ≤ from_ ∧ from_ ≤ 100) (hs : 0 ≤ shift ∧ shift ≤ 1) (hbase : base ≤ w.heap.size) (had : ad.block < base) (hT : ∀ j, j < row.length → w.cell? (ad.add j) = some (.int .i64 (rd row j))) (hcr : row.length ≤ cr)
    (hE : ∀ X : Nat → Prop, (∀ k, X k → w.heap.size ≤ k) → EachOk base X fid ecaps each (I X)) (hI : ∀ (X : Nat → Prop) w', Below w.heap.size w w' → (∀ k, X k → w.heap.size ≤ k ∧ k < w'.heap.size) → I X s w')
    (h : fillF each row shift kf s (List.replicate row.length (-1)) (numbersUp from_ (row.length / 2)) = some (s', b)) :
    Calls Try.prog 77 #[.agg #[.slice (some ad) row.length cr, .int .i64 from_, .int .i64 shift], .func (.func fid) #[] ecaps] w fun e w' => e = .returned (.tuple #[]) ∧ (∃ X : Nat → Prop, (∀ k, X k → w.heap.size ≤ k) ∧ I X s' w') ∧ Below base w w' := by
  have hu := Try.underlying27
  have H0 := Aside0.mk hr0
  have H1 := Aside0.mk hr1
  have HFR := Aside0.mk hfr
  have HS := Aside0.mk hs
  have HBASE := Aside0.mk hbase
  have HAD := Aside0.mk had
  have HT := Aside0.mk hT
  have HE := Aside0.mk hE
  have HI := Aside0.mk hI
  have HF := Aside0.mk h
  clear hr0 hfr hs hbase had hT hE hI h
  go_enter Try.func77, Try.ntmps77
  go_upto_region 1 with (fail)
  go_cut [4, 5] (fun v4 v5 wc => ∃ gr gl : Nat, v4 = .slice (some ⟨gr, 0, none⟩) row.length row.length ∧ v5 = .slice (some ⟨gl, 0, none⟩) (row.length / 2) (row.length / 2) ∧ gr ≠ gl ∧ Aside0 (IB wc gr (List.replicate row.length 0)) ∧ Aside0 (IB wc gl (List.replicate (row.length / 2) 0)) ∧ Aside0 (Below (w.heap.size + 1) (w.alloc (.cells #[.slice (some ad) row.length cr, .int .i64 from_, .int .i64 shift] 27)) wc) ∧ w.heap.size + 1 ≤ gr ∧ w.heap.size + 1 ≤ gl)
  case first =>
    refine start_ (n := 11) (S := fun w' => w'.cell? ⟨w.heap.size, 0, none⟩ = some (.slice (some ad) row.length cr)) (ds := []) #[false, false, false, false, false, false, false, false, false, false, false] (by kernel_rfl) rfl rfl (by
      show (w.alloc _).cell? _ = _
      rw [cell_of_row _ _ _ _ _ _ (heap_alloc_new _ _)]
      rfl) (fun hHeld => ?_)
    have HB1 := Aside0.mk (below_drew1 (Below.refl (w.heap.size + 1) (w.alloc (.cells #[.slice (some ad) row.length cr, .int .i64 from_, .int .i64 shift] 27))))
    have hsz : w.heap.size + 1 ≤ (w.alloc (.cells #[.slice (some ad) row.length cr, .int .i64 from_, .int .i64 shift] 27)).drew.heap.size := by
      show _ ≤ (w.heap.push _).size
      rw [Array.size_push]
      exact Nat.le_refl _
    have HSZ := Aside0.mk hsz
    clear hsz
    generalize (w.alloc _).drew = w1 at HB1 HSZ hHeld ⊢
    refine pure_ (i := 0) (N := some 8) (v := ?_) (a' := ?_) #[true, false, false, false, false, false, false, false, false, false, false] rfl rfl (by kernel_rfl) (fun _ _ _ h => h) (Or.inl ⟨by rfl, ?_⟩) ?_ ?_
    rotate_left
    · intro w'
      go_simp
      with_reducible rfl
    rotate_left
    · simp only [Act.put, List.setIfInBounds_toArray, List.set_cons_zero, List.set_cons_succ, i64_w, i32_w]
      rfl
    refine take_ (i := 1) (N := some 9) (v := ?_) (a' := ?_) #[true, true, false, false, false, false, false, false, false, false, false] rfl rfl (by kernel_rfl) (fun _ _ _ h => h) (Or.inl ⟨by rfl, ?_⟩) hHeld ?_ ?_
    rotate_left
    · rintro w' s0
      go_simp
      with_reducible rfl
    rotate_left
    · simp only [Act.put, List.setIfInBounds_toArray, List.set_cons_zero, List.set_cons_succ, i64_w, i32_w]
      rfl
    refine pure_ (i := 2) (N := some 10) (v := ?_) (a' := ?_) #[true, true, true, false, false, false, false, false, false, false, false] rfl rfl (by kernel_rfl) (fun _ _ _ h => h) (Or.inl ⟨by rfl, ?_⟩) ?_ ?_
    rotate_left
    · intro w'
      go_simp
      with_reducible rfl
    rotate_left
    · simp only [Act.put, List.setIfInBounds_toArray, List.set_cons_zero, List.set_cons_succ, i64_w, i32_w]
      rfl
    refine pure_ (i := 4) (N := some 12) (v := ?_) (a' := ?_) #[true, true, true, false, true, false, false, false, false, false, false] rfl rfl (by kernel_rfl) (fun _ _ _ h => h) (Or.inl ⟨by rfl, ?_⟩) ?_ ?_
    rotate_left
    · intro w'
      go_simp
      with_reducible rfl
    rotate_left
    · simp only [Act.put, List.setIfInBounds_toArray, List.set_cons_zero, List.set_cons_succ, i64_w, i32_w]
      rfl
    refine take_ (i := 5) (N := some 13) (v := ?_) (a' := ?_) #[true, true, true, false, true, true, false, false, false, false, false] rfl rfl (by kernel_rfl) (fun _ _ _ h => h) (Or.inl ⟨by rfl, ?_⟩) hHeld ?_ ?_
    rotate_left
    · rintro w' s0
      go_simp
      with_reducible rfl
    rotate_left
    · simp only [Act.put, List.setIfInBounds_toArray, List.set_cons_zero, List.set_cons_succ, i64_w, i32_w]
      rfl
    refine pure_ (i := 6) (N := some 14) (v := ?_) (a' := ?_) #[true, true, true, false, true, true, true, false, false, false, false] rfl rfl (by kernel_rfl) (fun _ _ _ h => h) (Or.inl ⟨by rfl, ?_⟩) ?_ ?_
    rotate_left
    · intro w'
      go_simp
      with_reducible rfl
    rotate_left
    · simp only [Act.put, List.setIfInBounds_toArray, List.set_cons_zero, List.set_cons_succ, i64_w, i32_w]
      rfl
    refine pure_ (i := 7) (N := some 15) (v := ?_) (a' := ?_) #[true, true, true, false, true, true, true, true, false, false, false] rfl rfl (by kernel_rfl) (fun _ _ _ h => h) (Or.inl ⟨by rfl, ?_⟩) ?_ ?_
    rotate_left
    · intro w'
      go_simp
      with_reducible rfl
    rotate_left
    · simp only [Act.put, List.setIfInBounds_toArray, List.set_cons_zero, List.set_cons_succ, i64_w, i32_w]
      rfl
    have hq : wrap64 ((row.length : Int) / 2) = ((row.length / 2 : Nat) : Int) := by rw [wrap_in (by omega) (by omega)]; omega
    rw [hq]
    clear hq
    refine two_ (i := 3) (j := 8) #[true, true, true, true, true, true, true, true, false, false, false] #[true, true, true, false, true, true, true, true, true, false, false] rfl rfl rfl rfl (by kernel_rfl) (by decide) (by decide) (fun K hK => ?_) (fun K hK => ?_)
    · refine IB_make_step (n := row.length) (by rfl) rfl rfl rfl rfl (by omega) ?_
      intro w2 hI2 hB2
      have hh2 := cell_below hHeld hB2
      refine hK.out _ _ hh2 (fun hHeld => ?_)
      clear hK K
      refine norm_ (a' := ?_) ?_ ?_
      rotate_left
      · show Act.put _ (some 11) _ = _
        simp only [Act.put, List.setIfInBounds_toArray, List.set_cons_zero, List.set_cons_succ, i64_w, i32_w]
        rfl
      refine pure_ (i := 9) (N := some 4) (v := ?_) (a' := ?_) #[true, true, true, true, true, true, true, true, false, true, false] rfl rfl (by kernel_rfl) (fun _ _ _ h => h) (Or.inl ⟨by rfl, ?_⟩) ?_ ?_
      rotate_left
      · intro w'
        go_simp
        with_reducible rfl
      rotate_left
      · simp only [Act.put, List.setIfInBounds_toArray, List.set_cons_zero, List.set_cons_succ, i64_w, i32_w]
        rfl
      refine one_ (i := 8) (N := some 16) #[true, true, true, true, true, true, true, true, true, true, false] rfl rfl (by kernel_rfl) (by decide) (fun K hK => ?_)
      refine IB_make_step (n := row.length / 2) (by rfl) rfl rfl rfl rfl (by omega) ?_
      intro w3 hI3 hB3
      have hh3 := cell_below hHeld hB3
      refine hK.out _ _ hh3 (fun hHeld => ?_)
      clear hK K
      refine norm_ (a' := ?_) ?_ ?_
      rotate_left
      · show Act.put _ (some 16) _ = _
        simp only [Act.put, List.setIfInBounds_toArray, List.set_cons_zero, List.set_cons_succ, i64_w, i32_w]
        rfl
      refine pure_ (i := 10) (N := some 5) (v := ?_) (a' := ?_) #[true, true, true, true, true, true, true, true, true, true, true] rfl rfl (by kernel_rfl) (fun _ _ _ h => h) (Or.inl ⟨by rfl, ?_⟩) ?_ ?_
      rotate_left
      · intro w'
        go_simp
        with_reducible rfl
      rotate_left
      · simp only [Act.put, List.setIfInBounds_toArray, List.set_cons_zero, List.set_cons_succ, i64_w, i32_w]
        rfl
      refine done_ (by kernel_rfl) ?_
      try go_wp2
      go_meet
      case rel => exact ⟨w1.heap.size, w2.heap.size, rfl, rfl, by have := blk_lt hI2; omega, ⟨IB_below hI2 hB3⟩, ⟨hI3⟩, ⟨HB1.out.trans ((hB2.mono HSZ.out).trans (hB3.mono (Nat.le_trans HSZ.out hB2.size)))⟩, HSZ.out, Nat.le_trans HSZ.out hB2.size⟩
    · refine IB_make_step (n := row.length / 2) (by rfl) rfl rfl rfl rfl (by omega) ?_
      intro w2 hI2 hB2
      have hh2 := cell_below hHeld hB2
      refine hK.out _ _ hh2 (fun hHeld => ?_)
      clear hK K
      refine norm_ (a' := ?_) ?_ ?_
      rotate_left
      · show Act.put _ (some 16) _ = _
        simp only [Act.put, List.setIfInBounds_toArray, List.set_cons_zero, List.set_cons_succ, i64_w, i32_w]
        rfl
      refine one_ (i := 3) (N := some 11) #[true, true, true, true, true, true, true, true, true, false, false] rfl rfl (by kernel_rfl) (by decide) (fun K hK => ?_)
      refine IB_make_step (n := row.length) (by rfl) rfl rfl rfl rfl (by omega) ?_
      intro w3 hI3 hB3
      have hh3 := cell_below hHeld hB3
      refine hK.out _ _ hh3 (fun hHeld => ?_)
      clear hK K
      refine norm_ (a' := ?_) ?_ ?_
      rotate_left
      · show Act.put _ (some 11) _ = _
        simp only [Act.put, List.setIfInBounds_toArray, List.set_cons_zero, List.set_cons_succ, i64_w, i32_w]
        rfl
      refine pure_ (i := 9) (N := some 4) (v := ?_) (a' := ?_) #[true, true, true, true, true, true, true, true, true, true, false] rfl rfl (by kernel_rfl) (fun _ _ _ h => h) (Or.inl ⟨by rfl, ?_⟩) ?_ ?_
      rotate_left
      · intro w'
        go_simp
        with_reducible rfl
      rotate_left
      · simp only [Act.put, List.setIfInBounds_toArray, List.set_cons_zero, List.set_cons_succ, i64_w, i32_w]
        rfl
      refine pure_ (i := 10) (N := some 5) (v := ?_) (a' := ?_) #[true, true, true, true, true, true, true, true, true, true, true] rfl rfl (by kernel_rfl) (fun _ _ _ h => h) (Or.inl ⟨by rfl, ?_⟩) ?_ ?_
      rotate_left
      · intro w'
        go_simp
        with_reducible rfl
      rotate_left
      · simp only [Act.put, List.setIfInBounds_toArray, List.set_cons_zero, List.set_cons_succ, i64_w, i32_w]
        rfl
      refine done_ (by kernel_rfl) ?_
      try go_wp2
      go_meet
      case rel => exact ⟨w2.heap.size, w1.heap.size, rfl, rfl, by have := blk_lt hI2; omega, ⟨hI3⟩, ⟨IB_below hI2 hB3⟩, ⟨HB1.out.trans ((hB2.mono HSZ.out).trans (hB3.mono (Nat.le_trans HSZ.out hB2.size)))⟩, Nat.le_trans HSZ.out hB2.size, HSZ.out⟩
  case rest =>
    obtain ⟨gr, gl, rfl, rfl, hne, HR, HL, HB, hgr, hgl⟩ := hcut
    have HNE := Aside0.mk hne
    have HGR := Aside0.mk hgr
    have HGL := Aside0.mk hgl
    clear hne hgr hgl
    have HST := Aside0.mk (show wc.heap[w.heap.size]? = some (.cells #[.slice (some ad) row.length cr, .int .i64 from_, .int .i64 shift] 27 (0, 0)) from (HB.out.block _ (Nat.lt_succ_self _)).trans (heap_alloc_new _ _))
    have HB := Aside0.mk (show Below w.heap.size w wc from (below_alloc (Below.refl _ _) _).trans (HB.out.mono (Nat.le_succ _)))
    go_wp2
    go_loopw [19] (fun v19 wr => ∃ i : Nat, i ≤ row.length ∧ v19 = .int .i64 i ∧ Aside0 (At2 w.heap.size gr gl wc wr (List.replicate i (-1) ++ List.replicate (row.length - i) 0) (List.replicate (row.length / 2) 0))) (fun v _ => row.length - (intOf v).toNat)
    case atStart => exact ⟨0, Nat.zero_le _, rfl, ⟨At2.refl _ HR.out HL.out⟩⟩
    case round =>
      obtain ⟨i, hi, rfl, HA⟩ := hrel
      by_cases hlt : i < row.length
      · have hc1 := HA.out.row.cell i (by simp; omega)
        have hf1 := blk_frozen HA.out.row i
        have HLT := Aside0.mk hlt
        go_wp2
        go_roundw
        case rel =>
          refine ⟨i + 1, HLT.out, by go_num, ⟨?_⟩⟩
          have h := HA.out.putR HNE.out (by have := HGR.out; omega) i (-1) rfl
          rw [set_at (by simp) HLT.out, ← List.replicate_succ'] at h
          exact h
        case measure => simp [intOf]; have := HLT.out; omega
      · obtain rfl : i = row.length := by omega
        have HA := Aside0.mk (show At2 w.heap.size gr gl wc wr (List.replicate row.length (-1)) (List.replicate (row.length / 2) 0) by simpa using HA.out)
        clear hlt hi
        have hfr := HFR.out
        have hm : row.length / 2 ≤ 100 := by omega
        go_wp2
        go_loopw [28] (fun v28 wq => ∃ i : Nat, i ≤ row.length / 2 ∧ v28 = .int .i64 i ∧ Aside0 (At2 w.heap.size gr gl wc wq (List.replicate row.length (-1)) (numbersUp from_ i ++ List.replicate (row.length / 2 - i) 0))) (fun v _ => row.length / 2 - (intOf v).toNat)
        case atStart => exact ⟨0, Nat.zero_le _, rfl, ⟨by simpa [numbersUp] using HA.out⟩⟩
        case round =>
          obtain ⟨i, hi, rfl, HA2⟩ := hrel
          have hst : wr.heap[w.heap.size]? = some (.cells #[.slice (some ad) row.length cr, .int .i64 from_, .int .i64 shift] 27 (0, 0)) := (HA2.out.other _ (by have := HGR.out; omega) (by have := HGL.out; omega)).trans HST.out
          have hs0 := blk_cell hst 0
          have hs1 := blk_cell hst 1
          have hs2 := blk_cell hst 2
          simp only [List.getElem?_toArray, List.getElem?_cons_zero, List.getElem?_cons_succ] at hs0 hs1 hs2
          by_cases hlt : i < row.length / 2
          · have hc1 := HA2.out.left.cell i (by simp [numbersUp_len]; omega)
            have hf1 := blk_frozen HA2.out.left i
            have HLT := Aside0.mk hlt
            go_wp2
            go_roundw
            case rel =>
              refine ⟨i + 1, HLT.out, by go_num, ⟨?_⟩⟩
              have h := HA2.out.putL HNE.out (by have := HGL.out; omega) i (from_ + (i : Int)) rfl
              rw [set_at (numbersUp_len _ _) HLT.out, ← numbersUp_succ] at h
              exact h
            case measure => simp [intOf]; have := HLT.out; omega
          · obtain rfl : i = row.length / 2 := by omega
            have HA3 := Aside0.mk (show At2 w.heap.size gr gl wc wr (List.replicate row.length (-1)) (numbersUp from_ (row.length / 2)) by simpa using HA2.out)
            clear hlt hi HA2
            have hX : ∀ k, (k = gr ∨ k = gl) → w.heap.size ≤ k := fun k hk => by have := HGR.out; have := HGL.out; omega
            have HX := Aside0.mk hX
            have hTw : ∀ j, j < row.length → wr.cell? (ad.add j) = some (.int .i64 (rd row j)) := told_same HT.out ((HA3.out.other _ (by have := HGR.out; have := HAD.out; have := HBASE.out; omega) (by have := HGL.out; have := HAD.out; have := HBASE.out; omega)).trans (HB.out.block _ (by have := HAD.out; have := HBASE.out; omega)))
            have hcall := fill_calls (HE.out (fun k => k = gr ∨ k = gl) hX) row ad cr shift HS.out gr gl (.inl rfl) (.inr rfl) HNE.out (by have := HGR.out; have := HBASE.out; omega) (by have := HGL.out; have := HBASE.out; omega) (by have := HGR.out; have := HAD.out; have := HBASE.out; omega) (by have := HGL.out; have := HAD.out; have := HBASE.out; omega) (.inl HAD.out) kf s s' b (List.replicate row.length (-1)) (numbersUp from_ (row.length / 2)) wr (by simp) (by simp; omega) (by rw [numbersUp_len]; omega) (fun x hx => by have := mem_numbersUp hx; omega)
              (HI.out _ wr (HB.out.trans HA3.out.below) (fun k hk => ⟨hX k hk, by
                rcases hk with rfl | rfl
                · exact blk_lt HA3.out.row
                · exact blk_lt HA3.out.left⟩)) HA3.out.row HA3.out.left hTw HF.out
            rw [List.length_replicate, numbersUp_len] at hcall
            have HCALL := Aside0.mk hcall
            clear hX hTw hcall
            go_wp2_with (first | ((with_reducible refine gate_callee (f := 85) rfl ?_); refine goesL_ (some 46) rfl rfl Try.func85 (by kernel_rfl) rfl #[.slice (some ⟨gr, 0, none⟩) row.length row.length, .slice (some ad) row.length cr, .slice (some ⟨gl, 0, none⟩) (row.length / 2) (row.length / 2), .int .i64 shift, .func (.func fid) #[] ecaps] rfl (by (try simp only [List.map_toArray, List.map_cons, List.map_nil]); first | done | rfl) ?_; refine HCALL.out.mono ?_; rintro e w5 ⟨rfl, hI5, hB5, hX5⟩; refine ⟨_, rfl, ?_⟩; have HI5 := Aside0.mk hI5; have HB5 := Aside0.mk hB5; clear hI5 hB5 hX5))
            first | go_end0 | ((try simp only [Exit.inBlock, Exit.then]); refine bodyPost_ret (results_none rfl _ _ _) rfl ?_)
            exact ⟨rfl, ⟨_, HX.out, HI5.out⟩, ((HB.out.trans HA3.out.below).mono HBASE.out).trans HB5.out⟩


end Go.Proofs.Ytjfhcddahahdfaa.Fn
namespace Go.Proofs.Ytjfhcddahahdfaa.Fn
open Go.RowKit Go.Proofs.YtjfhcddahahdfaaW.PrintWords Go.Proofs.YtjfhcddahahdfaaW.PrintLast Go.Proofs.YtjfhcddahahdfaaW.PrintMore
attribute [local go_sem] max2_int min2_int max_two min_two max_three min_three max_four min_four   -- for this text's walks alone
set_option linter.unusedVariables false
set_option linter.unusedSimpArgs false

/-! ### impl_Puzzle_solutions: function 65 (given) -/
/-- The solutions of a puzzle that is one, as the search finds them. -/
def solveAll (row : List Int) (from_ shift most : Int) : Option (List (List Int) × Bool) := fillF (eachAll most) row shift (row.length + 1) [] (List.replicate row.length (-1)) (numbersUp from_ (row.length / 2))
def impl_Puzzle_solutions.f (k : Nat) (l0_0 : List Int) (a0_1 : Int) (a0_2 : Int) : Option (List (List Int) × Bool) := (impl_IsPuzzle.f k l0_0 a0_1 a0_2).bind fun t => if t = true then (if 0 < l0_0.length ∧ l0_0.length ≤ 100 ∧ 0 ≤ a0_1 ∧ a0_1 ≤ 100 ∧ 0 ≤ a0_2 ∧ a0_2 ≤ 1 then (solveAll l0_0 a0_1 a0_2 300).bind fun p => (some (if (p.1.length : Int) ≤ 300 then p.1 else [], decide ((p.1.length : Int) ≤ 300))) else none) else some ([], false)
theorem impl_Puzzle_solutions.mono : ∀ a0 a1 a2 k, LeO (impl_Puzzle_solutions.f k a0 a1 a2) (impl_Puzzle_solutions.f (k + 1) a0 a1 a2) := by
  intro a0 a1 a2 k
  unfold impl_Puzzle_solutions.f
  exact LeO.bind (impl_IsPuzzle.mono _ _ _ _) (fun _ => LeO.refl _)
theorem solve_all {base : Nat} (row : List Int) (ad : Addr) (cr : Nat) (from_ shift most : Int) (xs : List (List Int)) (b : Bool) (W : World) (hr0 : 0 < row.length) (hr1 : row.length ≤ 100) (hfr : 0 ≤ from_ ∧ from_ ≤ 100) (hs : 0 ≤ shift ∧ shift ≤ 1) (had : ad.block < base) (hT : ∀ w, Below base W w → ∀ j, j < row.length → w.cell? (ad.add j) = some (.int .i64 (rd row j))) (hcr : row.length ≤ cr) (h : solveAll row from_ shift most = some (xs, b)) :
    KindAll 77 #[.agg #[.slice (some ad) row.length cr, .int .i64 from_, .int .i64 shift]] #[] base (fun w => Below base W w) most xs := by
  intro bo bm w hP hb hb1 hb2 hlo hlm hI
  have := solve_call (I := fun X => AllI base bo bm most X) (row.length + 1) row ad cr from_ shift [] xs b w hr0 hr1 hfr hs hb had (hT w hP) hcr (fun X hX => all1_ok hX hlo hlm) hI h
  simpa using this
set_option maxHeartbeats 8000000 in
set_option maxRecDepth 100000 in
theorem impl_Puzzle_solutions.calls (k : Nat) (A0_0 : Option Addr) (c0_0 : Nat) (l0_0 : List Int) (a0_1 : Int) (a0_2 : Int) (r1 : List (List Int)) (r2 : Bool) (w : World) (hr0_0 : Kd.C (Kd.int .i64) w A0_0 l0_0.length l0_0) (hc0_0 : l0_0.length ≤ c0_0) (h : impl_Puzzle_solutions.f k l0_0 a0_1 a0_2 = some (r1, r2)) :
    Calls Try.prog 65 #[.agg #[.slice A0_0 l0_0.length c0_0, .int .i64 a0_1, .int .i64 a0_2]] w fun e w' => ∃ v0_ : Value, e = .returned (.tuple #[v0_, .bool r2]) ∧ Kd.S (Kd.slice 3 (Kd.int .i64)) 22 w' w.heap.size (fun _ => True) v0_ r1 ∧ Below w.heap.size w w' := by
  have hu := Try.underlying27
  obtain ⟨t1, hA, h⟩ := Option.bind_eq_some_iff.1 h
  have A1 := Aside0.mk hA
  have HR := Aside0.mk hr0_0
  have HC := Aside0.mk hc0_0
  have CALL1 := Aside0.mk (fun W hb => impl_IsPuzzle.calls k A0_0 c0_0 l0_0 a0_1 a0_2 t1 W (Kd.C_below HR.out hb) HC.out A1.out)
  cases t1 with
  | false =>
    rw [if_neg (by decide)] at h
    obtain ⟨rfl, rfl⟩ := Prod.mk.inj (Option.some.inj h)
    clear hA h hr0_0 hc0_0
    go_enter Try.func65, Try.ntmps65
    go_wp2_with (first | ((with_reducible refine gate_callee (f := 18) rfl ?_); refine goesL_ (some 5) rfl rfl Try.func18 (by kernel_rfl) rfl #[.agg #[.slice A0_0 l0_0.length c0_0, .int .i64 a0_1, .int .i64 a0_2]] rfl (by (try simp only [List.map_toArray, List.map_cons, List.map_nil]); first | done | rfl) ?_; refine (CALL1.out _ (below_alloc (Below.refl _ _) _)).mono ?_; rintro e w2 ⟨rfl, hB2⟩; refine ⟨_, rfl, ?_⟩; have HB2 := Aside0.mk hB2; clear hB2))
    go_ret2
    exact ⟨_, rfl, Kd.S_nil _ _ _ _ _, below_step (below_alloc (Below.refl _ _) _) HB2.out⟩
  | true =>
    rw [if_pos rfl] at h
    split at h
    case isFalse => cases h
    rename_i hcond
    obtain ⟨h0, h1, h2, h3, h4, h5⟩ := hcond
    obtain ⟨⟨xs, b⟩, hsol, h⟩ := Option.bind_eq_some_iff.1 h
    obtain ⟨hr1, hr2⟩ := Prod.mk.inj (Option.some.inj h)
    obtain ⟨ad, rfl, hx0⟩ := Kd.at_int hr0_0 0 (by omega) (by omega)
    have hcells : ∀ j, j < l0_0.length → w.cell? (ad.add j) = some (.int .i64 (rd l0_0 j)) := fun j hj => by
      obtain ⟨ad', e, hx⟩ := Kd.at_int hr0_0 j (by omega) (by omega)
      obtain rfl := Option.some.inj e
      exact hx
    have hlt : ad.block < w.heap.size := by
      have := World.block_lt_of_cell? w _ hx0
      rwa [add_block] at this
    have CALL2 := Aside0.mk (show ∀ w3, Below w.heap.size w w3 → Calls Try.prog 78 #[.func (.func 77) #[.agg #[.slice (some ad) l0_0.length c0_0, .int .i64 a0_1, .int .i64 a0_2]] #[], .int .i64 300] w3 fun e w' => ∃ v0_ : Value, e = .returned (.tuple #[v0_, .bool r2]) ∧ Kd.S (Kd.slice 3 (Kd.int .i64)) 22 w' w3.heap.size (fun _ => True) v0_ r1 ∧ Below w3.heap.size w3 w' from fun w3 hb =>
      kind_all_call (Pre := fun w' => Below w3.heap.size w3 w') w3 Try.func77 (by kernel_rfl) rfl (fun w' h => h)
        (solve_all l0_0 ad c0_0 a0_1 a0_2 300 xs b w3 h0 h1 ⟨h2, h3⟩ ⟨h4, h5⟩ (Nat.lt_of_lt_of_le hlt hb.size) (fun w' hw' => told_same (told_same hcells (hb.block _ hlt)) (hw'.block _ (Nat.lt_of_lt_of_le hlt hb.size))) hc0_0 hsol) r1 r2 hr1.symm hr2.symm)
    clear hA h hsol hr1 hr2 hx0 hcells hlt h0 h1 h2 h3 h4 h5 hr0_0 hc0_0
    go_enter Try.func65, Try.ntmps65
    go_wp2_with (first | ((with_reducible refine gate_callee (f := 18) rfl ?_); refine goesL_ (some 5) rfl rfl Try.func18 (by kernel_rfl) rfl #[.agg #[.slice (some ad) l0_0.length c0_0, .int .i64 a0_1, .int .i64 a0_2]] rfl (by (try simp only [List.map_toArray, List.map_cons, List.map_nil]); first | done | rfl) ?_; refine (CALL1.out _ (below_alloc (Below.refl _ _) _)).mono ?_; rintro e w2 ⟨rfl, hB2⟩; refine ⟨_, rfl, ?_⟩; have HB3 := Aside0.mk (below_step (below_alloc (Below.refl _ _) _) hB2); have hst := (blk_below (heap_alloc_new _ _) hB2 : w2.heap[w.heap.size]? = some (.cells #[.slice (some ad) l0_0.length c0_0, .int .i64 a0_1, .int .i64 a0_2] 27 (0, 0))); have hs0 := blk_cell hst 0; have hs1 := blk_cell hst 1; have hs2 := blk_cell hst 2; simp only [List.getElem?_toArray, List.getElem?_cons_zero, List.getElem?_cons_succ] at hs0 hs1 hs2; clear hB2) | ((with_reducible refine gate_callee (f := 78) rfl ?_); refine goesL_ (some 9) rfl rfl Try.func78 (by kernel_rfl) rfl #[.func (.func 77) #[.agg #[.slice (some ad) l0_0.length c0_0, .int .i64 a0_1, .int .i64 a0_2]] #[], .int .i64 300] rfl (by (try simp only [List.map_toArray, List.map_cons, List.map_nil]); first | done | rfl) ?_; refine (CALL2.out _ HB3.out).mono ?_; rintro e w4 ⟨v4, rfl, hS4, hB4⟩; refine ⟨_, rfl, ?_⟩; have HS4 := Aside0.mk hS4; have HB4 := Aside0.mk hB4; clear hS4 hB4))
    go_ret2
    exact ⟨_, rfl, Kd.S_lower HS4.out HB3.out.size, HB3.out.trans (HB4.out.mono HB3.out.size)⟩

noncomputable def impl_Puzzle_solutions.F (l0_0 : List Int) (a0_1 : Int) (a0_2 : Int) : Option (List (List Int) × Bool) := lim fun k => impl_Puzzle_solutions.f k l0_0 a0_1 a0_2
theorem impl_Puzzle_solutions.F_lim (l0_0 : List Int) (a0_1 : Int) (a0_2 : Int) : Lim (fun k => impl_Puzzle_solutions.f k l0_0 a0_1 a0_2) (impl_Puzzle_solutions.F l0_0 a0_1 a0_2) := Lim.of fun k => impl_Puzzle_solutions.mono l0_0 a0_1 a0_2 k
theorem impl_Puzzle_solutions.F_eq (l0_0 : List Int) (a0_1 : Int) (a0_2 : Int) : impl_Puzzle_solutions.F l0_0 a0_1 a0_2 = ((impl_IsPuzzle.F l0_0 a0_1 a0_2).bind fun t => if t = true then (if 0 < l0_0.length ∧ l0_0.length ≤ 100 ∧ 0 ≤ a0_1 ∧ a0_1 ≤ 100 ∧ 0 ≤ a0_2 ∧ a0_2 ≤ 1 then (solveAll l0_0 a0_1 a0_2 300).bind fun p => (some (if (p.1.length : Int) ≤ 300 then p.1 else [], decide ((p.1.length : Int) ≤ 300))) else none) else some ([], false)) :=
  Lim.unique (impl_Puzzle_solutions.F_lim l0_0 a0_1 a0_2) (by
    unfold impl_Puzzle_solutions.f
    repeat' first
    | (with_reducible exact Lim.const _)
    | (with_reducible exact impl_IsPuzzle.F_lim _ _ _)
    | (with_reducible refine Lim.ite ?_ ?_)
    | (with_reducible refine Lim.bind ?_ (fun _ => ?_)))

end Go.Proofs.Ytjfhcddahahdfaa.Fn
namespace Go.Proofs.Ytjfhcddahahdfaa.Fn
open Go.RowKit Go.Proofs.YtjfhcddahahdfaaW.PrintWords Go.Proofs.YtjfhcddahahdfaaW.PrintLast Go.Proofs.YtjfhcddahahdfaaW.PrintMore
attribute [local go_sem] max2_int min2_int max_two min_two max_three min_three max_four min_four   -- for this text's walks alone
set_option linter.unusedVariables false
set_option linter.unusedSimpArgs false

/-! ### impl_Solutions: function 45 -/
def impl_Solutions.f (k : Nat) (l0_0 : List Int) (a0_1 : Int) (a0_2 : Int) : Option ((List (List Int)) × Bool) := (impl_Puzzle_solutions.f k l0_0 a0_1 a0_2).bind fun bt737 => (some (bt737.1, bt737.2))
theorem impl_Solutions.mono : ∀ a0 a1 a2 k, LeO (impl_Solutions.f k a0 a1 a2) (impl_Solutions.f (k + 1) a0 a1 a2) := by
  intro a0 a1 a2 k
  unfold impl_Solutions.f
  repeat' first
      | (with_reducible exact impl_Puzzle_solutions.mono _ _ _ _)
      | (with_reducible exact LeO.refl _)
      | (with_reducible exact LeO.none _)
      | (with_reducible refine LeO.ite ?_ ?_)
      | (with_reducible refine LeO.bind ?_ (fun _ => ?_))
      | exact impl_Puzzle_solutions.mono _ _ _ _
      | exact LeO.none _
      | refine LeO.ite ?_ ?_
      | refine LeO.bind ?_ (fun _ => ?_)
set_option maxHeartbeats 8000000 in
set_option maxRecDepth 100000 in
theorem impl_Solutions.calls (k : Nat) (A0_0 : Option Addr) (c0_0 : Nat) (l0_0 : List Int) (a0_1 : Int) (a0_2 : Int) (r1 : List (List Int)) (r2 : Bool) (w : World) (hr0_0 : Kd.C (Kd.int .i64) w A0_0 l0_0.length l0_0) (hc0_0 : l0_0.length ≤ c0_0) (h : impl_Solutions.f k l0_0 a0_1 a0_2 = some (r1, r2)) :
    Calls Try.prog 45 #[.agg #[.slice A0_0 l0_0.length c0_0, .int .i64 a0_1, .int .i64 a0_2]] w fun e w' => ∃ v0_ : Value, e = .returned (.tuple #[v0_, .bool r2]) ∧ Kd.S (Kd.slice 3 (Kd.int .i64)) 22 w' w.heap.size (fun _ => True) v0_ r1 ∧ Below w.heap.size w w' := by
  have hu27 := Try.underlying27
  have HR0_0 := Aside0.mk hr0_0
  have HC0_0 := Aside0.mk hc0_0
  clear hr0_0 hc0_0
  have HB := Aside0.mk (Below.refl w.heap.size w)
  have H : ((impl_Puzzle_solutions.f k l0_0 a0_1 a0_2).bind fun bt737 => (some (bt737.1, bt737.2))) = some (r1, r2) := h
  clear h
  replace H := Option.bind_eq_some_iff.mp H
  obtain ⟨⟨t737, t740⟩, A20, H⟩ := H
  replace H : (some (t737, t740)) = some (r1, r2) := H
  have A2 := Aside0.mk A20
  clear A20
  simp only [Option.some.injEq, Prod.mk.injEq] at H
  obtain ⟨rfl, rfl⟩ := H
  go_enter Try.func45, Try.ntmps45
  go_wp2_with (first | ((with_reducible refine gate_dst (N := 1) rfl ?_); refine box_event ?hg (N := 1) ?hd (cs := #[.slice A0_0 l0_0.length c0_0, .int .i64 a0_1, .int .i64 a0_2]) (t := 27) ?hr ?_; (case hd => rfl); (case hg => rfl); (case hr => first | (go_simp; done) | (go_simp; rfl)); intro gb736 hg w3 hbox hb; have n0_ := Aside0.mk (below_step (by repeat (first | (with_reducible first | exact HB.out | apply below_alloc | apply pw_below_drewN | apply below_drew1) | exact HB.out)) hb); have n1_ := Aside0.mk (hbox); have n2_ := Aside0.mk ((by rw [hg]; exact (below_size (by repeat (first | (with_reducible first | exact HB.out | apply below_alloc | apply pw_below_drewN | apply below_drew1) | exact HB.out))) : w.heap.size ≤ gb736)); have n3_ := Aside0.mk ((by rw [hg]; exact (below_size (by repeat (first | (with_reducible first | exact HB.out | apply below_alloc | apply pw_below_drewN | apply below_drew1) | exact HB.out))) : w.heap.size ≤ gb736)); clear HB; have HB := n0_; have BK736 := n1_; have GW736 := n2_; have GE736 := n3_; clear n0_ n1_ n2_ n3_; clear hb hbox hg; have hcz4_0 : w3.cell? ⟨gb736, 0, none⟩ = some (.slice A0_0 l0_0.length c0_0) := (blk_cell BK736.out 0).trans rfl; have hcz4_1 : w3.cell? ⟨gb736, 1, none⟩ = some (.int .i64 a0_1) := (blk_cell BK736.out 1).trans rfl; have hcz4_2 : w3.cell? ⟨gb736, 2, none⟩ = some (.int .i64 a0_2) := (blk_cell BK736.out 2).trans rfl; have hfz4_0 := blk_frozen BK736.out 0; have hfz4_1 := blk_frozen BK736.out 1; have hfz4_2 := blk_frozen BK736.out 2) | ((with_reducible refine gate_callee (f := 65) rfl ?_); refine goesL_ (some 5) rfl rfl Try.func65 (by kernel_rfl) rfl #[.agg #[.slice A0_0 l0_0.length c0_0, .int .i64 a0_1, .int .i64 a0_2]] rfl (by (try simp only [List.map_toArray, List.map_cons, List.map_nil]); first | done | rfl | (simp only [List.length_drop, List.length_take]; rfl)) ?_; (with_reducible refine (impl_Puzzle_solutions.calls k _ _ l0_0 a0_1 a0_2 t737 t740 _ ?side1 ?side2 A2.out).mono ?_); (case side1 => repeat (first | exact (Kd.C_below HR0_0.out HB.out) | (with_reducible refine Kd.C_alloc ?_ _) | (with_reducible refine Kd.C_drewN ?_ _) | (with_reducible refine Kd.C_drew ?_))); (case side2 => exact HC0_0.out); rintro e w5 ⟨v738, rfl, ho0, hb⟩; refine ⟨_, rfl, ?_⟩; have n0_ := Aside0.mk (Kd.S_lower ho0 (below_size (by repeat (first | (with_reducible first | exact HB.out | apply below_alloc | apply pw_below_drewN | apply below_drew1 | refine below_set ?_ GE736.out) | exact HB.out)))); have n1_ := Aside0.mk (blk_below (g := gb736) (o := .cells #[.slice A0_0 l0_0.length c0_0, .int .i64 a0_1, .int .i64 a0_2] 27 (0, 0)) (by (with_reducible repeat (first | refine blk_drewN ?_ _ | refine blk_drew ?_ | refine blk_alloc ?_ _)); exact BK736.out) hb); have n2_ := Aside0.mk (below_step (by repeat (first | (with_reducible first | exact HB.out | apply below_alloc | apply pw_below_drewN | apply below_drew1 | refine below_set ?_ GE736.out) | exact HB.out)) hb); clear BK736; clear HB; have HO739 := n0_; have BK736 := n1_; have HB := n2_; clear n0_ n1_ n2_; (try clear hb); (try clear hb2); (try clear hk); (try clear hi); (try clear ho0)))
  go_ret2
  exact ⟨_, by first | rfl | (simp [errW_none, errW_some] <;> rfl) | (simp [*, errW_none, errW_some] <;> rfl), by (with_reducible repeat (first | apply Kd.S_alloc | apply Kd.S_drewN | apply Kd.S_drew)); exact HO739.out, by repeat (first | (with_reducible first | exact HB.out | apply below_alloc | apply pw_below_drewN | apply below_drew1 | refine below_set ?_ GE736.out) | exact HB.out)⟩

noncomputable def impl_Solutions.F (l0_0 : List Int) (a0_1 : Int) (a0_2 : Int) : Option ((List (List Int)) × Bool) := lim fun k => impl_Solutions.f k l0_0 a0_1 a0_2
theorem impl_Solutions.F_lim (l0_0 : List Int) (a0_1 : Int) (a0_2 : Int) : Lim (fun k => impl_Solutions.f k l0_0 a0_1 a0_2) (impl_Solutions.F l0_0 a0_1 a0_2) := Lim.of fun k => impl_Solutions.mono l0_0 a0_1 a0_2 k
theorem impl_Solutions.F_eq (l0_0 : List Int) (a0_1 : Int) (a0_2 : Int) : impl_Solutions.F l0_0 a0_1 a0_2 = ((impl_Puzzle_solutions.F l0_0 a0_1 a0_2).bind fun bt737 => (some (bt737.1, bt737.2))) :=
  Lim.unique (impl_Solutions.F_lim l0_0 a0_1 a0_2) (by
    unfold impl_Solutions.f
    repeat' first
    | (with_reducible exact Lim.const _)
    | (with_reducible exact impl_Puzzle_solutions.F_lim _ _ _)
    | (with_reducible refine Lim.ite ?_ ?_)
    | (with_reducible refine Lim.bind ?_ (fun _ => ?_)))

end Go.Proofs.Ytjfhcddahahdfaa.Fn
namespace Go.Proofs.Ytjfhcddahahdfaa.Fn
open Go.RowKit Go.Proofs.YtjfhcddahahdfaaW.PrintWords Go.Proofs.YtjfhcddahahdfaaW.PrintLast Go.Proofs.YtjfhcddahahdfaaW.PrintMore
attribute [local go_sem] max2_int min2_int max_two min_two max_three min_three max_four min_four   -- for this text's walks alone
set_option linter.unusedVariables false
set_option linter.unusedSimpArgs false

/-! ### laws_szIntS: function 51 -/
def laws_szIntS.f (l0 : List Int) (a1 : Int) : Option (Int) := if (wrap64 (a1 - (l0.length : Int))) < 0 then (some (-1)) else (some (wrap64 (a1 - (l0.length : Int))))
set_option maxHeartbeats 8000000 in
set_option maxRecDepth 100000 in
theorem laws_szIntS.calls (A0 : Option Addr) (c0 : Nat) (l0 : List Int) (a1 : Int) (r : Int) (w : World) (hr0 : Kd.C (Kd.int .i64) w A0 l0.length l0) (hc0 : l0.length ≤ c0) (h : laws_szIntS.f l0 a1 = some r) :
    Calls Try.prog 51 #[.slice A0 l0.length c0, .int .i64 a1] w fun e w' => e = .returned (.int .i64 r) ∧ Drawn0 w w' := by
  have HR0 := Aside0.mk hr0
  have HC0 := Aside0.mk hc0
  clear hr0 hc0
  have H : (if (wrap64 (a1 - (l0.length : Int))) < 0 then (some (-1)) else (some (wrap64 (a1 - (l0.length : Int))))) = some r := h
  clear h
  by_cases c3 : (wrap64 (a1 - (l0.length : Int))) < 0
  · rw [if_pos c3] at H
    have c3b0 : decide ((wrap64 (a1 - (l0.length : Int))) < 0) = true := decide_eq_true c3
    clear c3
    obtain rfl := Option.some.inj H
    go_enter Try.func51, Try.ntmps51
    go_wp2
    go_ret
    exact ⟨by first | rfl | (simp; done) | (simp [*]; done), by repeat (first | exact Drawn0.refl _ | apply Drawn0.step)⟩
  · rw [if_neg c3] at H
    have c3b0 : decide ((wrap64 (a1 - (l0.length : Int))) < 0) = false := decide_eq_false c3
    clear c3
    obtain rfl := Option.some.inj H
    go_enter Try.func51, Try.ntmps51
    go_wp2
    go_ret
    exact ⟨by first | rfl | (simp; done) | (simp [*]; done), by repeat (first | exact Drawn0.refl _ | apply Drawn0.step)⟩


end Go.Proofs.Ytjfhcddahahdfaa.Fn
namespace Go.Proofs.Ytjfhcddahahdfaa.Fn
open Go.RowKit Go.Proofs.YtjfhcddahahdfaaW.PrintWords Go.Proofs.YtjfhcddahahdfaaW.PrintLast Go.Proofs.YtjfhcddahahdfaaW.PrintMore
attribute [local go_sem] max2_int min2_int max_two min_two max_three min_three max_four min_four   -- for this text's walks alone
set_option linter.unusedVariables false
set_option linter.unusedSimpArgs false

/-! ### laws_szPuzzle: function 15 -/
def laws_szPuzzle.f (l0_0 : List Int) (a0_1 : Int) (a0_2 : Int) (a1 : Int) : Option (Int) := (laws_szIntS.f l0_0 a1).bind fun t102 => (if t102 < 0 then (some (-1)) else (some t102))
set_option maxHeartbeats 8000000 in
set_option maxRecDepth 100000 in
theorem laws_szPuzzle.calls (A0_0 : Option Addr) (c0_0 : Nat) (l0_0 : List Int) (a0_1 : Int) (a0_2 : Int) (a1 : Int) (r : Int) (w : World) (hr0_0 : Kd.C (Kd.int .i64) w A0_0 l0_0.length l0_0) (hc0_0 : l0_0.length ≤ c0_0) (h : laws_szPuzzle.f l0_0 a0_1 a0_2 a1 = some r) :
    Calls Try.prog 15 #[.agg #[.slice A0_0 l0_0.length c0_0, .int .i64 a0_1, .int .i64 a0_2], .int .i64 a1] w fun e w' => e = .returned (.int .i64 r) ∧ Below w.heap.size w w' := by
  have hu24 := Try.underlying24
  have HR0_0 := Aside0.mk hr0_0
  have HC0_0 := Aside0.mk hc0_0
  clear hr0_0 hc0_0
  have HB := Aside0.mk (Below.refl w.heap.size w)
  have H : ((laws_szIntS.f l0_0 a1).bind fun t102 => (if t102 < 0 then (some (-1)) else (some t102))) = some r := h
  clear h
  replace H := Option.bind_eq_some_iff.mp H
  obtain ⟨t102, A30, H⟩ := H
  replace H : (if t102 < 0 then (some (-1)) else (some t102)) = some r := H
  have A3 := Aside0.mk A30
  clear A30
  by_cases c4 : t102 < 0
  · rw [if_pos c4] at H
    have c4b0 : decide (t102 < 0) = true := decide_eq_true c4
    clear c4
    obtain rfl := Option.some.inj H
    go_enter Try.func15, Try.ntmps15
    go_wp2_with (first | ((with_reducible refine gate_dst (N := 2) rfl ?_); refine box_event ?hg (N := 2) ?hd (cs := #[.slice A0_0 l0_0.length c0_0, .int .i64 a0_1, .int .i64 a0_2]) (t := 24) ?hr ?_; (case hd => rfl); (case hg => rfl); (case hr => first | (go_simp; done) | (go_simp; rfl)); intro gb101 hg w5 hbox hb; have n0_ := Aside0.mk (below_step (by repeat (first | (with_reducible first | exact HB.out | apply below_alloc | apply pw_below_drewN | apply below_drew1) | exact HB.out)) hb); have n1_ := Aside0.mk (hbox); have n2_ := Aside0.mk ((by rw [hg]; exact (below_size (by repeat (first | (with_reducible first | exact HB.out | apply below_alloc | apply pw_below_drewN | apply below_drew1) | exact HB.out))) : w.heap.size ≤ gb101)); have n3_ := Aside0.mk ((by rw [hg]; exact (below_size (by repeat (first | (with_reducible first | exact HB.out | apply below_alloc | apply pw_below_drewN | apply below_drew1) | exact HB.out))) : w.heap.size ≤ gb101)); clear HB; have HB := n0_; have BK101 := n1_; have GW101 := n2_; have GE101 := n3_; clear n0_ n1_ n2_ n3_; clear hb hbox hg; have hcz6_0 : w5.cell? ⟨gb101, 0, none⟩ = some (.slice A0_0 l0_0.length c0_0) := (blk_cell BK101.out 0).trans rfl; have hcz6_1 : w5.cell? ⟨gb101, 1, none⟩ = some (.int .i64 a0_1) := (blk_cell BK101.out 1).trans rfl; have hcz6_2 : w5.cell? ⟨gb101, 2, none⟩ = some (.int .i64 a0_2) := (blk_cell BK101.out 2).trans rfl; have hfz6_0 := blk_frozen BK101.out 0; have hfz6_1 := blk_frozen BK101.out 1; have hfz6_2 := blk_frozen BK101.out 2) | ((with_reducible refine gate_callee (f := 51) rfl ?_); refine goesL_ (some 8) rfl rfl Try.func51 (by kernel_rfl) rfl #[.slice A0_0 l0_0.length c0_0, .int .i64 a1] rfl (by (try simp only [List.map_toArray, List.map_cons, List.map_nil]); first | done | rfl | (simp only [List.length_drop, List.length_take]; rfl)) ?_; (with_reducible refine (laws_szIntS.calls _ _ l0_0 a1 t102 _ ?side1 ?side2 A3.out).mono ?_); (case side1 => repeat (first | exact (Kd.C_below HR0_0.out HB.out) | (with_reducible refine Kd.C_alloc ?_ _) | (with_reducible refine Kd.C_drewN ?_ _) | (with_reducible refine Kd.C_drew ?_))); (case side2 => exact HC0_0.out); rintro e w' ⟨rfl, ⟨nd, rfl⟩⟩; refine ⟨_, rfl, ?_⟩))
    go_ret
    exact ⟨by first | rfl | (simp [errW_none, errW_some] <;> rfl) | (simp [*, errW_none, errW_some] <;> rfl), by repeat (first | (with_reducible first | exact HB.out | apply below_alloc | apply pw_below_drewN | apply below_drew1 | refine below_set ?_ GE101.out) | exact HB.out)⟩
  · rw [if_neg c4] at H
    have c4b0 : decide (t102 < 0) = false := decide_eq_false c4
    clear c4
    obtain rfl := Option.some.inj H
    go_enter Try.func15, Try.ntmps15
    go_wp2_with (first | ((with_reducible refine gate_dst (N := 2) rfl ?_); refine box_event ?hg (N := 2) ?hd (cs := #[.slice A0_0 l0_0.length c0_0, .int .i64 a0_1, .int .i64 a0_2]) (t := 24) ?hr ?_; (case hd => rfl); (case hg => rfl); (case hr => first | (go_simp; done) | (go_simp; rfl)); intro gb101 hg w7 hbox hb; have n0_ := Aside0.mk (below_step (by repeat (first | (with_reducible first | exact HB.out | apply below_alloc | apply pw_below_drewN | apply below_drew1) | exact HB.out)) hb); have n1_ := Aside0.mk (hbox); have n2_ := Aside0.mk ((by rw [hg]; exact (below_size (by repeat (first | (with_reducible first | exact HB.out | apply below_alloc | apply pw_below_drewN | apply below_drew1) | exact HB.out))) : w.heap.size ≤ gb101)); have n3_ := Aside0.mk ((by rw [hg]; exact (below_size (by repeat (first | (with_reducible first | exact HB.out | apply below_alloc | apply pw_below_drewN | apply below_drew1) | exact HB.out))) : w.heap.size ≤ gb101)); clear HB; have HB := n0_; have BK101 := n1_; have GW101 := n2_; have GE101 := n3_; clear n0_ n1_ n2_ n3_; clear hb hbox hg; have hcz8_0 : w7.cell? ⟨gb101, 0, none⟩ = some (.slice A0_0 l0_0.length c0_0) := (blk_cell BK101.out 0).trans rfl; have hcz8_1 : w7.cell? ⟨gb101, 1, none⟩ = some (.int .i64 a0_1) := (blk_cell BK101.out 1).trans rfl; have hcz8_2 : w7.cell? ⟨gb101, 2, none⟩ = some (.int .i64 a0_2) := (blk_cell BK101.out 2).trans rfl; have hfz8_0 := blk_frozen BK101.out 0; have hfz8_1 := blk_frozen BK101.out 1; have hfz8_2 := blk_frozen BK101.out 2) | ((with_reducible refine gate_callee (f := 51) rfl ?_); refine goesL_ (some 8) rfl rfl Try.func51 (by kernel_rfl) rfl #[.slice A0_0 l0_0.length c0_0, .int .i64 a1] rfl (by (try simp only [List.map_toArray, List.map_cons, List.map_nil]); first | done | rfl | (simp only [List.length_drop, List.length_take]; rfl)) ?_; (with_reducible refine (laws_szIntS.calls _ _ l0_0 a1 t102 _ ?side1 ?side2 A3.out).mono ?_); (case side1 => repeat (first | exact (Kd.C_below HR0_0.out HB.out) | (with_reducible refine Kd.C_alloc ?_ _) | (with_reducible refine Kd.C_drewN ?_ _) | (with_reducible refine Kd.C_drew ?_))); (case side2 => exact HC0_0.out); rintro e w' ⟨rfl, ⟨nd, rfl⟩⟩; refine ⟨_, rfl, ?_⟩))
    go_ret
    exact ⟨by first | rfl | (simp [errW_none, errW_some] <;> rfl) | (simp [*, errW_none, errW_some] <;> rfl), by repeat (first | (with_reducible first | exact HB.out | apply below_alloc | apply pw_below_drewN | apply below_drew1 | refine below_set ?_ GE101.out) | exact HB.out)⟩


end Go.Proofs.Ytjfhcddahahdfaa.Fn
namespace Go.Proofs.Ytjfhcddahahdfaa.Fn
open Go.RowKit Go.Proofs.YtjfhcddahahdfaaW.PrintWords Go.Proofs.YtjfhcddahahdfaaW.PrintLast Go.Proofs.YtjfhcddahahdfaaW.PrintMore
attribute [local go_sem] max2_int min2_int max_two min_two max_three min_three max_four min_four   -- for this text's walks alone
set_option linter.unusedVariables false
set_option linter.unusedSimpArgs false

/-! ### laws_toIntS: function 33 -/
def laws_toIntS.l0 : Nat → List Int → List Int → Int → Option (List Int)
  | 0, _, _, _ => none
  | k + 1, x0, x3, x4 => if x4 < (x0.length : Int) then (if 0 ≤ x4 then (if x4 < (x3.length : Int) then (laws_toIntS.l0 k x0 (x3.set (x4 : Int).toNat (rd x0 x4)) (wrap64 (x4 + 1))) else (none)) else (none)) else (some x3)
def laws_toIntS.f (k : Nat) (l0 : List Int) : Option (List Int) := if 0 ≤ (l0.length : Int) then (if ((l0.length : Int) : Int).toNat ≤ 35184372088832 then (laws_toIntS.l0 k l0 (List.replicate ((l0.length : Int) : Int).toNat 0) 0) else (none)) else (none)
theorem laws_toIntS.mono_l : ∀ k, (∀ y0 y1 y2, LeO (laws_toIntS.l0 k y0 y1 y2) (laws_toIntS.l0 (k + 1) y0 y1 y2))
  | 0 => fun _ _ _ r h => by simp [laws_toIntS.l0] at h
  | k + 1 => by
    have ih0 := laws_toIntS.mono_l k
    · intro y0 y1 y2
      unfold laws_toIntS.l0
      repeat' first
      | (with_reducible exact ih0 _ _ _)
      | (with_reducible exact LeO.refl _)
      | (with_reducible exact LeO.none _)
      | (with_reducible refine LeO.ite ?_ ?_)
      | (with_reducible refine LeO.bind ?_ (fun _ => ?_))
      | exact ih0 _ _ _
      | exact LeO.none _
      | refine LeO.ite ?_ ?_
      | refine LeO.bind ?_ (fun _ => ?_)
theorem laws_toIntS.mono : ∀ a0 k, LeO (laws_toIntS.f k a0) (laws_toIntS.f (k + 1) a0) := by
  intro a0 k
  have ih0 := laws_toIntS.mono_l k
  unfold laws_toIntS.f
  repeat' first
      | (with_reducible exact ih0 _ _ _)
      | (with_reducible exact LeO.refl _)
      | (with_reducible exact LeO.none _)
      | (with_reducible refine LeO.ite ?_ ?_)
      | (with_reducible refine LeO.bind ?_ (fun _ => ?_))
      | exact ih0 _ _ _
      | exact LeO.none _
      | refine LeO.ite ?_ ?_
      | refine LeO.bind ?_ (fun _ => ?_)
set_option maxHeartbeats 8000000 in
set_option maxRecDepth 100000 in
theorem laws_toIntS.calls (k : Nat) (A0 : Option Addr) (c0 : Nat) (l0 : List Int) (r : List Int) (w : World) (hr0 : Kd.C (Kd.int .i64) w A0 l0.length l0) (hc0 : l0.length ≤ c0) (h : laws_toIntS.f k l0 = some r) :
    Calls Try.prog 33 #[.slice A0 l0.length c0] w fun e w' => ∃ v0_ : Value, e = .returned (v0_) ∧ Kd.R (Kd.int .i64) 3 w' w.heap.size (fun _ => True) v0_ r ∧ Below w.heap.size w w' := by
  have HR0 := Aside0.mk hr0
  have HC0 := Aside0.mk hc0
  clear hr0 hc0
  have HB := Aside0.mk (Below.refl w.heap.size w)
  have H : (if 0 ≤ (l0.length : Int) then (if ((l0.length : Int) : Int).toNat ≤ 35184372088832 then (laws_toIntS.l0 k l0 (List.replicate ((l0.length : Int) : Int).toNat 0) 0) else (none)) else (none)) = some r := h
  clear h
  by_cases c2 : 0 ≤ (l0.length : Int)
  · rw [if_pos c2] at H
    have c2b0 := eq_true c2
    have c2b1 : decide (0 ≤ (l0.length : Int)) = true := decide_eq_true c2
    clear c2
    by_cases c3 : ((l0.length : Int) : Int).toNat ≤ 35184372088832
    · rw [if_pos c3] at H
      have c3b0 := eq_true c3
      have c3b1 : decide (((l0.length : Int) : Int).toNat ≤ 35184372088832) = true := decide_eq_true c3
      clear c3
      obtain ⟨y111, hy111⟩ : ∃ y_ : List Int, y_ = (List.replicate ((l0.length : Int) : Int).toNat 0) := ⟨_, rfl⟩
      replace H : (laws_toIntS.l0 k l0 y111 0) = some r := by first | (rw [hy111]; with_reducible exact H) | (have H2_ := (Option.bind_some _ _).symm.trans H; rw [hy111]; with_reducible exact H2_) | (have H2_ := (Option.bind_some _ _).symm.trans H; with_reducible exact H2_) | with_reducible exact H | (rw [hy111]; exact H) | exact H
      have Ny111 := Aside0.mk hy111
      clear hy111
      have H' := Aside0.mk H
      clear H
      go_enter Try.func33, Try.ntmps33
      go_wp2_with (first | ((with_reducible refine gate_dst (N := 7) rfl ?_); refine Kd.R_make (Kd.int .i64) _ 3 rfl (N := 7) rfl 22 _ _ rfl (l0.length : Int) rfl rfl Try.underlying22 (.int .i64 0) 8 info3 rfl (by decide) (by omega) 0 (ok := fun _ => True) (okp := fun _ => True) rfl (fun _ hk => hk) trivial (of_decide_eq_true (by first | (with_reducible assumption) | assumption)) (Nat.le_trans (Nat.mul_le_mul_right _ (of_decide_eq_true (by first | (with_reducible assumption) | assumption) : (l0.length : Int).toNat ≤ 35184372088832)) (by omega)) (Below.refl _ _) (Nat.le_refl _) ?_; intro v112 w4 ho5 hb hg_ hnew_; clear hg_ hnew_; (first | rw [← Ny111.out] at ho5 | (simp only [Int.reduceToNat] at ho5; rw [← Ny111.out] at ho5)); have n0_ := Aside0.mk (Kd.R_lower ho5 (below_size (by repeat (first | (with_reducible first | exact HB.out | apply below_alloc | apply pw_below_drewN | apply below_drew1) | exact HB.out)))); have n1_ := Aside0.mk (below_step (by repeat (first | (with_reducible first | exact HB.out | apply below_alloc | apply pw_below_drewN | apply below_drew1) | exact HB.out)) hb); clear HB; have HO113 := n0_; have HB := n1_; clear n0_ n1_; clear hb ho5))
      go_loopg [4] k (fun kq v4 w' => ∃ (x3_1 : List Int) (x4_1 : Int), v4 = .int .i64 x4_1 ∧ Aside0 (laws_toIntS.l0 kq l0 x3_1 x4_1 = some r) ∧ Aside0 (kq ≤ k) ∧ Aside0 (Kd.R (Kd.int .i64) 3 w' w.heap.size (fun _ => True) v112 x3_1) ∧ Aside0 (Below w.heap.size w w'))
      case atStart => exact ⟨(y111), (0), (by first | rfl | (simp; done) | (simp [*]; done)), H', ⟨Nat.le_refl _⟩, ⟨by (with_reducible repeat (first | apply Kd.R_alloc | apply Kd.R_drewN | apply Kd.R_drew)); exact HO113.out⟩, ⟨by repeat (first | (with_reducible first | exact HB.out | apply below_alloc | apply pw_below_drewN | apply below_drew1) | exact HB.out)⟩⟩
      case round =>
        clear H'
        try clear c2
        try clear c2b0
        try clear c2b1
        try clear p2
        try clear c3
        try clear c3b0
        try clear c3b1
        obtain ⟨x3_1, x4_1, rfl, HA, HK1, HO_3, HB⟩ := hrel
        cases gk with
        | zero => exact absurd HA.out (by simp [laws_toIntS.l0])
        | succ k1 =>
          have H := HA.out
          clear HA
          simp only [laws_toIntS.l0] at H
          by_cases c6 : x4_1 < (l0.length : Int)
          · rw [if_pos c6] at H
            have c6b0 : decide (x4_1 < (l0.length : Int)) = true := decide_eq_true c6
            clear c6
            by_cases c7 : 0 ≤ x4_1
            · rw [if_pos c7] at H
              have c7b0 : decide (0 ≤ x4_1) = true := decide_eq_true c7
              clear c7
              by_cases c8 : x4_1 < (x3_1.length : Int)
              · rw [if_pos c8] at H
                have c8b0 : decide (x4_1 < (x3_1.length : Int)) = true := decide_eq_true c8
                clear c8
                obtain ⟨y115, hy115⟩ : ∃ y_ : List Int, y_ = (x3_1.set (x4_1 : Int).toNat (rd l0 x4_1)) := ⟨_, rfl⟩
                replace H : (laws_toIntS.l0 k1 l0 y115 (wrap64 (x4_1 + 1))) = some r := by first | (rw [hy115]; with_reducible exact H) | (have H2_ := (Option.bind_some _ _).symm.trans H; rw [hy115]; with_reducible exact H2_) | (have H2_ := (Option.bind_some _ _).symm.trans H; with_reducible exact H2_) | with_reducible exact H | (rw [hy115]; exact H) | exact H
                have Ny115 := Aside0.mk hy115
                clear hy115
                have H' := Aside0.mk H
                clear H
                have p114 : 0 ≤ (x4_1 : Int) := of_decide_eq_true (by first | (with_reducible assumption) | assumption)
                have q114 : x4_1 < (l0.length : Int) := of_decide_eq_true (by first | (with_reducible assumption) | assumption)
                obtain ⟨ad114, e114, hx114_0⟩ := Kd.at_int HR0.out x4_1 p114 q114
                cases e114
                replace hx114_0 := (HB.out.cell (World.block_lt_of_cell? w _ hx114_0)).trans hx114_0
                replace p114 := eq_true p114
                replace q114 := eq_true q114
                have p9 : 0 ≤ (x4_1 : Int) := of_decide_eq_true (by first | (with_reducible assumption) | assumption)
                have q9 : (x4_1 : Int) < ((x3_1.length : Int) : Int) := of_decide_eq_true (by first | (with_reducible assumption) | assumption)
                obtain ⟨go9, co9, eo9, gb9, gl9, cl9, HG9⟩ := Kd.R_form HO_3.out (by omega)
                (first | cases eo9 | (injection eo9 with ea_ en_ ec_; (first | subst ea_ | (injection ea_ with ea_; subst ea_)); subst ec_; clear en_))
                have GB9 := Aside0.mk gb9
                have GG9 := Aside0.mk HG9
                clear gb9 gl9 HG9
                obtain ⟨hx9_0, hf9_0⟩ := Kd.R_celln 0 HO_3.out (x4_1 : Int) p9 q9
                replace p9 := eq_true p9
                replace q9 := eq_true q9
                have HP10 := Kd.R_putg HO_3.out (x4_1 : Int) (rd l0 x4_1)
                go_wp2_with (first | ((with_reducible refine gate_store (t := 3) (p := 20) rfl ?_); refine store_event (t := 3) (p := 20) (v := ?vo_w11) (w1 := (wr.setCell ⟨go9, (x4_1 : Int).toNat, none⟩ (.int .i64 (rd l0 x4_1)))) ?hg ?ho ?hn ?hr ?_; (case ho => rfl); (case hg => rfl); (case hn => rfl); (case hr => first | (go_simp; done) | (go_simp; rfl)); intro w11 hw; have hg : wr.grownBy w11 (some go9) := (by rw [hw]; exact HP10.2); have hp_ : Kd.R (Kd.int .i64) 3 w11 w.heap.size (fun _ => True) (.slice (some ⟨go9, 0, none⟩) x3_1.length co9) y115 := (by rw [hw, Ny115.out]; exact HP10.1); clear HP10; have n0_ := Aside0.mk (hp_); have n1_ := Aside0.mk ((by rw [hw]; exact below_set (HB.out) GB9.out : Below w.heap.size w w11)); clear HO_3; clear HB; have HO_3 := n0_; have HB := n1_; clear n0_ n1_; clear hg hw hp_))
                go_roundg k1
                case measure => have := HK1.out; omega
                case rel => exact ⟨(y115), (wrap64 (x4_1 + 1)), (by first | rfl | (simp; done) | (simp [*]; done)), H', ⟨by have := HK1.out; omega⟩, ⟨by (with_reducible repeat (first | apply Kd.R_alloc | apply Kd.R_drewN | apply Kd.R_drew)); exact HO_3.out⟩, ⟨by repeat (first | (with_reducible first | exact HB.out | apply below_alloc | apply pw_below_drewN | apply below_drew1) | exact HB.out)⟩⟩
              · rw [if_neg c8] at H
                exact absurd H (by simp)
            · rw [if_neg c7] at H
              exact absurd H (by simp)
          · rw [if_neg c6] at H
            have c6b0 : decide (x4_1 < (l0.length : Int)) = false := decide_eq_false c6
            clear c6
            obtain rfl := Option.some.inj H
            go_wp2
            go_ret
            exact ⟨_, by first | rfl | (simp [errW_none, errW_some] <;> rfl) | (simp [*, errW_none, errW_some] <;> rfl), by (with_reducible repeat (first | apply Kd.R_alloc | apply Kd.R_drewN | apply Kd.R_drew)); exact HO_3.out, by repeat (first | (with_reducible first | exact HB.out | apply below_alloc | apply pw_below_drewN | apply below_drew1) | exact HB.out)⟩
    · rw [if_neg c3] at H
      exact absurd H (by simp)
  · rw [if_neg c2] at H
    exact absurd H (by simp)

noncomputable def laws_toIntS.L0 (x0 : List Int) (x3 : List Int) (x4 : Int) : Option (List Int) := lim fun k => laws_toIntS.l0 k x0 x3 x4
theorem laws_toIntS.L0_lim (x0 : List Int) (x3 : List Int) (x4 : Int) : Lim (fun k => laws_toIntS.l0 k x0 x3 x4) (laws_toIntS.L0 x0 x3 x4) := Lim.of fun k => (laws_toIntS.mono_l k) x0 x3 x4
noncomputable def laws_toIntS.F (l0 : List Int) : Option (List Int) := lim fun k => laws_toIntS.f k l0
theorem laws_toIntS.F_lim (l0 : List Int) : Lim (fun k => laws_toIntS.f k l0) (laws_toIntS.F l0) := Lim.of fun k => laws_toIntS.mono l0 k
theorem laws_toIntS.L0_eq (x0 : List Int) (x3 : List Int) (x4 : Int) : laws_toIntS.L0 x0 x3 x4 = (if x4 < (x0.length : Int) then (if 0 ≤ x4 then (if x4 < (x3.length : Int) then (laws_toIntS.L0 x0 (x3.set (x4 : Int).toNat (rd x0 x4)) (wrap64 (x4 + 1))) else (none)) else (none)) else (some x3)) :=
  Lim.step (f := fun k => (if x4 < (x0.length : Int) then (if 0 ≤ x4 then (if x4 < (x3.length : Int) then (laws_toIntS.l0 k x0 (x3.set (x4 : Int).toNat (rd x0 x4)) (wrap64 (x4 + 1))) else (none)) else (none)) else (some x3))) (laws_toIntS.L0_lim x0 x3 x4) (fun k => by first | rfl | rw [laws_toIntS.l0]) (by
    repeat' first
    | (with_reducible exact Lim.const _)
    | (with_reducible exact laws_toIntS.L0_lim _ _ _)
    | (with_reducible refine Lim.ite ?_ ?_)
    | (with_reducible refine Lim.bind ?_ (fun _ => ?_)))
theorem laws_toIntS.F_eq (l0 : List Int) : laws_toIntS.F l0 = (if 0 ≤ (l0.length : Int) then (if ((l0.length : Int) : Int).toNat ≤ 35184372088832 then (laws_toIntS.L0 l0 (List.replicate ((l0.length : Int) : Int).toNat 0) 0) else (none)) else (none)) :=
  Lim.unique (laws_toIntS.F_lim l0) (by
    unfold laws_toIntS.f
    repeat' first
    | (with_reducible exact Lim.const _)
    | (with_reducible exact laws_toIntS.L0_lim _ _ _)
    | (with_reducible refine Lim.ite ?_ ?_)
    | (with_reducible refine Lim.bind ?_ (fun _ => ?_)))

end Go.Proofs.Ytjfhcddahahdfaa.Fn
