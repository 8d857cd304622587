/- The machine's side and plain lemmas for FnHolesAnywhere: texts of this session, merged by its program (part 0). -/
import Derived.Test.YtaohgllnoomaeaaVFnHolesAnywhere
import Derived.Test.YtaohgllnoomaeaaProg
import Derived.Below
import Derived.Deep.Draws
import Derived.Deep.AppendLies
import Derived.Maps.AppendAt
import Derived.OwnWalk
import Derived.Laws.BytesArg
import Derived.Laws.MakeOwn
import Derived.Laws.OwnMore
import Derived.Deep.OwnRows
import Derived.Tactics
import Derived.Lib.ConvBytes
import Derived.Laws.Slices
import Derived.WalkKit
import Derived.KernelRfl
import Derived.RowKit3
import Derived.Deep.LoopGhost
import Derived.Deep.QuietTactic
import Derived.BigQuiet
import Derived.WideLaws
import Derived.Deep.DeepCutAuto
import Derived.Deep.CutBlock
import Derived.Deep.RegionHeld3
import Derived.Laws.Rows
import Derived.Lib.AppendStr
import Derived.ArgAppend
import Derived.Laws.IdiomCopy
import Derived.OrdersHeld
import Derived.Laws.BitsLemmas
import Derived.RowKit
import Derived.Laws.CopyOwn
namespace Go.Proofs.Ytaohgllnoomaeaa.Fn
open Go.RowKit Go.Proofs.YtaohgllnoomaeaaW.PrintWords Go.Proofs.YtaohgllnoomaeaaW.PrintLast

/-- What a function with rounds comes to; none where it comes to nothing. -/
noncomputable def lim {α : Type} (g : Nat → Option α) : Option α := open Classical in if h : ∃ k r, g k = some r then g (Classical.choose h) else none
/-- g gives more with more rounds, and comes to a. -/
structure Lim {α : Type} (g : Nat → Option α) (a : Option α) : Prop where
  mono : ∀ k, LeO (g k) (g (k + 1))
  comes : ∀ r, a = some r ↔ ∃ k, g k = some r
theorem lim_some {α : Type} {g : Nat → Option α} (hg : ∀ k, LeO (g k) (g (k + 1))) (r : α) : lim g = some r ↔ ∃ k, g k = some r := by
  unfold lim
  constructor
  · intro h
    split at h
    · exact ⟨_, h⟩
    · cases h
  · rintro ⟨k, hk⟩
    have hx : ∃ k r, g k = some r := ⟨k, r, hk⟩
    rw [dif_pos hx]
    obtain ⟨r', hr'⟩ := Classical.choose_spec hx
    have h1 := at_rounds hg (Nat.le_max_left k (Classical.choose hx)) hk
    have h2 := at_rounds hg (Nat.le_max_right k (Classical.choose hx)) hr'
    rw [h1] at h2
    rw [hr', h2]
theorem Lim.of {α : Type} {g : Nat → Option α} (hg : ∀ k, LeO (g k) (g (k + 1))) : Lim g (lim g) := ⟨hg, lim_some hg⟩
theorem Lim.unique {α : Type} {g : Nat → Option α} {a b : Option α} (ha : Lim g a) (hb : Lim g b) : a = b := by
  have h : ∀ r, a = some r ↔ b = some r := fun r => (ha.comes r).trans (hb.comes r).symm
  cases a with
  | none =>
    cases b with
    | none => rfl
    | some r => exact absurd ((h r).2 rfl) (by simp)
  | some r => exact ((h r).1 rfl).symm
theorem Lim.const {α : Type} (a : Option α) : Lim (fun _ => a) a := ⟨fun _ => LeO.refl _, fun _ => ⟨fun h => ⟨0, h⟩, fun ⟨_, h⟩ => h⟩⟩
theorem Lim.ite {α : Type} {c : Prop} [Decidable c] {g f : Nat → Option α} {a b : Option α} (hg : Lim g a) (hf : Lim f b) : Lim (fun k => if c then g k else f k) (if c then a else b) := by
  by_cases h : c
  · simp only [if_pos h]
    exact hg
  · simp only [if_neg h]
    exact hf
theorem Lim.bind {α β : Type} {g : Nat → Option α} {f : Nat → α → Option β} {a : Option α} {b : α → Option β} (hg : Lim g a) (hf : ∀ x, Lim (fun k => f k x) (b x)) : Lim (fun k => (g k).bind (f k)) (a.bind b) := by
  refine ⟨fun k => LeO.bind (hg.mono k) (fun x => (hf x).mono k), fun r => ⟨fun h => ?_, fun ⟨k, h⟩ => ?_⟩⟩
  · obtain ⟨x, hx, hb⟩ := Option.bind_eq_some_iff.1 h
    obtain ⟨k, hk⟩ := (hg.comes x).1 hx
    obtain ⟨k', hk'⟩ := ((hf x).comes r).1 hb
    refine ⟨max k k', Option.bind_eq_some_iff.2 ⟨x, at_rounds hg.mono (Nat.le_max_left _ _) hk, ?_⟩⟩
    exact at_rounds (g := fun k => f k x) (hf x).mono (Nat.le_max_right _ _) hk'
  · obtain ⟨x, hx, hb⟩ := Option.bind_eq_some_iff.1 h
    exact Option.bind_eq_some_iff.2 ⟨x, (hg.comes x).2 ⟨k, hx⟩, ((hf x).comes r).2 ⟨k, hb⟩⟩
/-- One round of a loop: what stands behind it comes to the same. -/
theorem Lim.step {α : Type} {g f : Nat → Option α} {a b : Option α} (ha : Lim g a) (hs : ∀ k, g (k + 1) = f k) (hf : Lim f b) : a = b := by
  refine Lim.unique (g := f) ⟨hf.mono, fun r => (ha.comes r).trans ⟨fun ⟨k, h⟩ => ⟨k, ?_⟩, fun ⟨k, h⟩ => ⟨k + 1, (hs k).trans h⟩⟩⟩ hf
  rw [← hs]
  exact ha.mono k r h
theorem Lim.rounds {α : Type} {g : Nat → Option α} {a : Option α} {r : α} (h : Lim g a) (e : a = some r) : ∃ k, g k = some r := (h.comes r).1 e

/-! ### loops over a list -/
theorem wrap_in {n : Int} (h0 : -9223372036854775808 ≤ n) (h1 : n ≤ 9223372036854775807) : wrap64 n = n := by
  unfold wrap64
  omega
theorem rd_mid (pre : List Int) (x : Int) (suf : List Int) : rd (pre ++ x :: suf) (pre.length : Int) = x := by
  unfold rd
  simp
theorem rd_nat (l : List Int) (i : Nat) (h : i < l.length) : rd l (i : Int) = l[i] := by
  unfold rd
  simp [List.getD_eq_getElem?_getD, List.getElem?_eq_getElem h]
theorem range_step {α : Type} {pre : List Int} {x : Int} {suf : List Int} {b n1 n2 e : α} : (if (pre.length : Int) < ((pre ++ x :: suf).length : Int) then (if 0 ≤ (pre.length : Int) then (if (pre.length : Int) < ((pre ++ x :: suf).length : Int) then b else n1) else n2) else e) = b := by
  have h : (pre.length : Int) < ((pre ++ x :: suf).length : Int) := by rw [List.length_append, List.length_cons]; omega
  rw [if_pos h, if_pos (by omega), if_pos h]
theorem range_end {α : Type} {pre : List Int} {b e : α} : (if (pre.length : Int) < ((pre ++ []).length : Int) then b else e) = e := by
  rw [if_neg (by simp)]
theorem wrap_mid {pre : List Int} {x : Int} {suf : List Int} (h : (pre ++ x :: suf).length < 4611686018427387904) : wrap64 ((pre.length : Int) + 1) = ((pre ++ [x]).length : Int) := by
  have h1 : pre.length + 1 ≤ (pre ++ x :: suf).length := by rw [List.length_append, List.length_cons]; omega
  rw [wrap_in (by omega) (by omega)]
  simp
theorem app_mid (pre : List Int) (x : Int) (suf : List Int) : pre ++ x :: suf = (pre ++ [x]) ++ suf := by simp
/-- What is held up to here is nothing; from here on it is S'. -/
theorem weak_ {P : Program} {md : Region.Mode} {ops : Array Oper} {Q : Exit → Act → World → Prop} {S' : World → Prop} {ds : List Nat} : ∀ {fuel : Nat} {l : Array Bool} {a : Act} {w : World}, wpAnyLast P md ops Q S' ds fuel l a w → wpAnyLast P md ops Q (fun _ => True) ds fuel l a w
  | 0, _, _, _, h => h
  | _ + 1, _, _, _, h => ⟨h.1, fun i hi => wpOp_mono (fun _ _ h' => ⟨fun _ _ => trivial, weak_ h'.2⟩) (h.2 i hi)⟩
/-! #### steps of the walk in short: what is pending between two events (values drawn, boxes made) is told by default -/
section
variable {α : Type} {d : Kd α} {e base : Nat} {ok : Nat → Prop} {v : Value} {xs : List α} {w0 w w1 w2 : World}
theorem upR (h : Aside0 (Kd.R d e w base ok v xs)) (hb : Below w1.heap.size w1 w2) (hm : Below w.heap.size w w1 := by (with_reducible repeat (first | exact Below.refl _ _ | apply below_alloc | apply pw_below_drewN | apply below_drew1))) : Aside0 (Kd.R d e w2 base ok v xs) := ⟨Kd.R_below h.out (hm.trans (hb.mono hm.size))⟩
theorem upS (h : Aside0 (Kd.S d e w base ok v xs)) (hb : Below w1.heap.size w1 w2) (hm : Below w.heap.size w w1 := by (with_reducible repeat (first | exact Below.refl _ _ | apply below_alloc | apply pw_below_drewN | apply below_drew1))) : Aside0 (Kd.S d e w2 base ok v xs) := ⟨Kd.S_below h.out (hm.trans (hb.mono hm.size))⟩
theorem upC {A : Option Addr} {n : Nat} (h : Aside0 (Kd.C d w A n xs)) (hb : Below w1.heap.size w1 w2) (hm : Below w.heap.size w w1 := by (with_reducible repeat (first | exact Below.refl _ _ | apply below_alloc | apply pw_below_drewN | apply below_drew1))) : Aside0 (Kd.C d w2 A n xs) := ⟨Kd.C_below h.out (hm.trans (hb.mono hm.size))⟩
theorem atC {A : Option Addr} {n : Nat} (h : Aside0 (Kd.C d w A n xs)) (hm : Below w.heap.size w w1 := by (with_reducible repeat (first | exact Below.refl _ _ | apply below_alloc | apply pw_below_drewN | apply below_drew1))) : Kd.C d w1 A n xs := Kd.C_below h.out hm
theorem atRC {A : Option Addr} {n c : Nat} (h : Aside0 (Kd.R d e w base ok (.slice A n c) xs)) (hm : Below w.heap.size w w1 := by (with_reducible repeat (first | exact Below.refl _ _ | apply below_alloc | apply pw_below_drewN | apply below_drew1))) : Kd.C d w1 A xs.length xs := Kd.C_below (Kd.R_reads' h.out).2.2 hm
theorem atSC {A : Option Addr} {n c : Nat} (h : Aside0 (Kd.S d e w base ok (.slice A n c) xs)) (hm : Below w.heap.size w w1 := by (with_reducible repeat (first | exact Below.refl _ _ | apply below_alloc | apply pw_below_drewN | apply below_drew1))) : Kd.C d w1 A xs.length xs := Kd.C_below (Kd.S_reads' h.out).2.2 hm
theorem upB (h : Aside0 (Below w0.heap.size w0 w)) (hb : Below w1.heap.size w1 w2) (hm : Below w.heap.size w w1 := by (with_reducible repeat (first | exact Below.refl _ _ | apply below_alloc | apply pw_below_drewN | apply below_drew1))) : Aside0 (Below w0.heap.size w0 w2) := ⟨below_step (below_step h.out hm) hb⟩
theorem atB (h : Aside0 (Below w0.heap.size w0 w)) (hm : Below w.heap.size w w1 := by (with_reducible repeat (first | exact Below.refl _ _ | apply below_alloc | apply pw_below_drewN | apply below_drew1))) : Below w0.heap.size w0 w1 := below_step h.out hm
theorem lowR (h : Kd.R d e w2 w1.heap.size ok v xs) (hB : Aside0 (Below w0.heap.size w0 w)) (hm : Below w.heap.size w w1 := by (with_reducible repeat (first | exact Below.refl _ _ | apply below_alloc | apply pw_below_drewN | apply below_drew1))) : Aside0 (Kd.R d e w2 w0.heap.size ok v xs) := ⟨Kd.R_lower h (below_size (below_step hB.out hm))⟩
theorem lowS (h : Kd.S d e w2 w1.heap.size ok v xs) (hB : Aside0 (Below w0.heap.size w0 w)) (hm : Below w.heap.size w w1 := by (with_reducible repeat (first | exact Below.refl _ _ | apply below_alloc | apply pw_below_drewN | apply below_drew1))) : Aside0 (Kd.S d e w2 w0.heap.size ok v xs) := ⟨Kd.S_lower h (below_size (below_step hB.out hm))⟩
theorem upK {g : Nat} (hK : Aside0 (KeepBut w0 w g none)) (hk : KeepBut w1 w2 g none) (hm : Below w.heap.size w w1 := by (with_reducible repeat (first | exact Below.refl _ _ | apply below_alloc | apply pw_below_drewN | apply below_drew1))) : Aside0 (KeepBut w0 w2 g none) := ⟨(hK.out.trans (KeepBut.of_below hm g none) (.inl rfl)).trans hk (.inl rfl)⟩
theorem upKB {g : Nat} (hK : Aside0 (KeepBut w0 w g none)) (hb : Below w1.heap.size w1 w2) (hm : Below w.heap.size w w1 := by (with_reducible repeat (first | exact Below.refl _ _ | apply below_alloc | apply pw_below_drewN | apply below_drew1))) : Aside0 (KeepBut w0 w2 g none) := ⟨(hK.out.trans (KeepBut.of_below hm g none) (.inl rfl)).trans (KeepBut.of_below hb g none) (.inl rfl)⟩
theorem lowKR {g : Nat} (h : Kd.R d e w2 w1.heap.size ok v xs) (hK : Aside0 (KeepBut w0 w g none)) (hm : Below w.heap.size w w1 := by (with_reducible repeat (first | exact Below.refl _ _ | apply below_alloc | apply pw_below_drewN | apply below_drew1))) : Aside0 (Kd.R d e w2 w0.heap.size ok v xs) := ⟨Kd.R_lower h (keep_size (hK.out.trans (KeepBut.of_below hm g none) (.inl rfl)))⟩
theorem lowKS {g : Nat} (h : Kd.S d e w2 w1.heap.size ok v xs) (hK : Aside0 (KeepBut w0 w g none)) (hm : Below w.heap.size w w1 := by (with_reducible repeat (first | exact Below.refl _ _ | apply below_alloc | apply pw_below_drewN | apply below_drew1))) : Aside0 (Kd.S d e w2 w0.heap.size ok v xs) := ⟨Kd.S_lower h (keep_size (hK.out.trans (KeepBut.of_below hm g none) (.inl rfl)))⟩
theorem szK {g : Nat} (hK : Aside0 (KeepBut w0 w g none)) (hm : Below w.heap.size w w1 := by (with_reducible repeat (first | exact Below.refl _ _ | apply below_alloc | apply pw_below_drewN | apply below_drew1))) : w0.heap.size ≤ w1.heap.size := keep_size (hK.out.trans (KeepBut.of_below hm g none) (.inl rfl))
theorem szB (hB : Aside0 (Below w0.heap.size w0 w)) (hm : Below w.heap.size w w1 := by (with_reducible repeat (first | exact Below.refl _ _ | apply below_alloc | apply pw_below_drewN | apply below_drew1))) : w0.heap.size ≤ w1.heap.size := below_size (below_step hB.out hm)
theorem ltR (h : Aside0 (Kd.R d e w base ok v xs)) (hm : Below w.heap.size w w1 := by (with_reducible repeat (first | exact Below.refl _ _ | apply below_alloc | apply pw_below_drewN | apply below_drew1))) : ∀ k, v.ownBlock = some k → k < w1.heap.size := Kd.R_lt (Kd.R_below h.out hm)
theorem ltS (h : Aside0 (Kd.S d e w base ok v xs)) (hm : Below w.heap.size w w1 := by (with_reducible repeat (first | exact Below.refl _ _ | apply below_alloc | apply pw_below_drewN | apply below_drew1))) : ∀ k, v.ownBlock = some k → k < w1.heap.size := Kd.S_lt (Kd.S_below h.out hm)
theorem eldRR {β : Type} {d' : Kd β} {e' : Nat} {ok' : Nat → Prop} {u : Value} {ys : List β} (h : Aside0 (Kd.R d e w base ok v xs)) (h2 : Kd.R d' e' w2 w1.heap.size ok' u ys) (hb : Below w1.heap.size w1 w2) (hm : Below w.heap.size w w1 := by (with_reducible repeat (first | exact Below.refl _ _ | apply below_alloc | apply pw_below_drewN | apply below_drew1))) : Aside0 (Kd.R d e w2 base (fun k => ok k ∧ some k ≠ u.ownBlock) v xs) := ⟨Kd.R_elder' (Kd.R_below h.out hm) (Kd.R_base h2) hb⟩
theorem eldSR {β : Type} {d' : Kd β} {e' : Nat} {ok' : Nat → Prop} {u : Value} {ys : List β} (h : Aside0 (Kd.S d e w base ok v xs)) (h2 : Kd.R d' e' w2 w1.heap.size ok' u ys) (hb : Below w1.heap.size w1 w2) (hm : Below w.heap.size w w1 := by (with_reducible repeat (first | exact Below.refl _ _ | apply below_alloc | apply pw_below_drewN | apply below_drew1))) : Aside0 (Kd.S d e w2 base (fun k => ok k ∧ some k ≠ u.ownBlock) v xs) := ⟨Kd.S_elder' (Kd.S_below h.out hm) (Kd.R_base h2) hb⟩
theorem atR (h : Aside0 (Kd.R d e w base ok v xs)) (hm : Below w.heap.size w w1 := by (with_reducible repeat (first | exact Below.refl _ _ | apply below_alloc | apply pw_below_drewN | apply below_drew1))) : Kd.R d e w1 base ok v xs := Kd.R_below h.out hm
theorem atS (h : Aside0 (Kd.S d e w base ok v xs)) (hm : Below w.heap.size w w1 := by (with_reducible repeat (first | exact Below.refl _ _ | apply below_alloc | apply pw_below_drewN | apply below_drew1))) : Kd.S d e w1 base ok v xs := Kd.S_below h.out hm
theorem atK {g : Nat} (hK : Aside0 (KeepBut w0 w g none)) (hm : Below w.heap.size w w1 := by (with_reducible repeat (first | exact Below.refl _ _ | apply below_alloc | apply pw_below_drewN | apply below_drew1))) : KeepBut w0 w1 g none := hK.out.trans (KeepBut.of_below hm g none) (.inl rfl)
end
theorem repsI {W : World} {b : Nat} {ok : Nat → Prop} : ∀ xs : List Int, Reps (Kd.M (Kd.int .i64) W b ok) 1 xs (xs.map (Value.int .i64))
  | [] => Reps.none _ _
  | _ :: xs => Reps.one rfl (repsI xs)
theorem eqd {β : Sort _} {a b : β} (h : a = b := by first | rfl | (simp; done) | (simp [*]; done)) : a = b := h
theorem eqr {β : Sort _} {a b : β} (h : a = b := by first | rfl | (simp [errW_none, errW_some] <;> rfl) | (simp [*, errW_none, errW_some] <;> rfl)) : a = b := h
theorem leD {a b : Nat} (h : a ≤ b := by first | omega | exact Nat.le_refl _) : a ≤ b := h
theorem ofd {p : Prop} [Decidable p] (h : decide p = true := by first | (with_reducible assumption) | assumption) : p := of_decide_eq_true h
theorem goesA {P : Program} {ops : Array Oper} {Q : Exit → Act → World → Prop} {rest : List Oper} {oi : Oper} {a : Act} {w : World} {f : FuncId} {fn : Func} {opers : Array Operand} {ts : Array TypeId} (N : Option Tmp) (hf : P.funcs[f]? = some fn) (args : Array Value) (h : Calls P f args w fun e w' => ∃ v, e = .returned v ∧ wpList P ops Q rest (a.put N v) w') (hd : oi.dst = N := by exact rfl) (hg : oi.guard = none := by exact rfl) (hname : (fn.name == "runtime.NumGoroutine") = false := by kernel_rfl) (hb : fn.body.isSome = true := by exact rfl) (hop : oi.op = .call { callee := .value (.func f), args := opers, argTypes := ts } := by exact rfl) (hargs : opers.map a.eval = args := by ((try simp only [List.map_toArray, List.map_cons, List.map_nil]); first | done | rfl | (simp only [List.length_drop, List.length_take]; rfl))) : wpList P ops Q (oi :: rest) a w := goesL_ N hd hg hf hname hb args hop hargs h
end Go.Proofs.Ytaohgllnoomaeaa.Fn
namespace Go.Proofs.Ytaohgllnoomaeaa.Fn
open Go.RowKit Go.Proofs.YtaohgllnoomaeaaW.PrintWords Go.Proofs.YtaohgllnoomaeaaW.PrintLast Go.Proofs.YtaohgllnoomaeaaW.PrintMore
attribute [local go_sem] max2_int min2_int max_two min_two max_three min_three max_four min_four   -- for this text's walks alone
set_option linter.unusedVariables false
set_option linter.unusedSimpArgs false



def errW : Option Int → Value
  | none => .nilIface
  | some c => .iface 0 (.int .i64 c)
theorem errW_none : errW none = .nilIface := rfl
theorem errW_some (c : Int) : errW (some c) = .iface 0 (.int .i64 c) := rfl

theorem info3 : (Try.prog.info? 3).map (fun i => (i.zero, i.size, i.bytes)) = some (some (.int .i64 0), 1, 8) := by kernel_rfl
theorem info31 : (Try.prog.info? 31).map (fun i => (i.zero, i.size, i.bytes)) = some (some (.slice none 0 0), 1, 24) := by kernel_rfl
-- the values' own types
def rd_L2 (xs : List (List Int)) (i : Int) : (List Int) := xs.getD i.toNat ([] : List Int)
theorem at_L2 {w : World} {A : Option Addr} {n : Nat} {xs : List (List Int)} (h : Kd.C (Kd.slice 3 (Kd.int .i64)) w A n xs) (i : Int) (h0 : 0 ≤ i) (h1 : i < n) : ∃ ad A0 c0, A = some ad ∧ w.cell? (ad.add i.toNat) = some (.slice A0 (rd_L2 xs i).length c0) ∧ (rd_L2 xs i).length ≤ c0 ∧ (Kd.int .i64).C w A0 (rd_L2 xs i).length (rd_L2 xs i) := by
  obtain ⟨ad, c, e, _, hK, hc0⟩ := Kd.C_get h ([] : List Int) i h0 h1
  have hc : ∀ j u, c[j]? = some u → w.cell? (ad.add (i.toNat * 1 + j)) = some u := hc0
  obtain ⟨A0, c0, rfl, l0, g0⟩ := hK
  exact ⟨ad, A0, c0, e, by have hq := hc 0 _ rfl; rwa [Nat.mul_one, Nat.add_zero] at hq, l0, g0⟩

def rd_L3 (xs : List (List (List Int))) (i : Int) : (List (List Int)) := xs.getD i.toNat ([] : List (List Int))
theorem at_L3 {w : World} {A : Option Addr} {n : Nat} {xs : List (List (List Int))} (h : Kd.C (Kd.slice 31 (Kd.slice 3 (Kd.int .i64))) w A n xs) (i : Int) (h0 : 0 ≤ i) (h1 : i < n) : ∃ ad A0 c0, A = some ad ∧ w.cell? (ad.add i.toNat) = some (.slice A0 (rd_L3 xs i).length c0) ∧ (rd_L3 xs i).length ≤ c0 ∧ (Kd.slice 3 (Kd.int .i64)).C w A0 (rd_L3 xs i).length (rd_L3 xs i) := by
  obtain ⟨ad, c, e, _, hK, hc0⟩ := Kd.C_get h ([] : List (List Int)) i h0 h1
  have hc : ∀ j u, c[j]? = some u → w.cell? (ad.add (i.toNat * 1 + j)) = some u := hc0
  obtain ⟨A0, c0, rfl, l0, g0⟩ := hK
  exact ⟨ad, A0, c0, e, by have hq := hc 0 _ rfl; rwa [Nat.mul_one, Nat.add_zero] at hq, l0, g0⟩

/-! #### struct type 65 -/
structure S65 where
  f0 : (List Int)
  f1 : Int
  f2 : Int
def z65 : S65 := ⟨([] : List Int), (0 : Int), (0 : Int)⟩
def k65 : Kd S65 := Kd.iso (Kd.pair (Kd.slice 3 (Kd.int .i64)) (Kd.pair (Kd.int .i64) (Kd.int .i64))) (fun x : S65 => (x.f0, x.f1, x.f2))
theorem k65_heap : Kd.Heap k65 := Kd.heap_iso _ (Kd.heap_pair (Kd.heap_slice 3 (Kd.heap_int .i64)) (Kd.heap_pair (Kd.heap_int .i64) (Kd.heap_int .i64)))
theorem k65_open {w : World} {x : S65} {cs : List Value} (h : k65.K w x cs) : ∃ A0 c0, cs = [.slice A0 x.f0.length c0, .int .i64 x.f1, .int .i64 x.f2] ∧ x.f0.length ≤ c0 ∧ (Kd.int .i64).C w A0 x.f0.length x.f0 := by
  obtain ⟨_, _, rfl, ⟨A0, c0, rfl, l0, g0⟩, ⟨_, _, rfl, rfl, rfl⟩⟩ := h
  exact ⟨A0, c0, rfl, l0, g0⟩
theorem k65_openM {w : World} {base : Nat} {ok : Nat → Prop} {x : S65} {cs : List Value} (h : k65.M w base ok x cs) : ∃ v0, cs = [v0, .int .i64 x.f1, .int .i64 x.f2] ∧ (Kd.int .i64).R 3 w base ok v0 x.f0 := by
  obtain ⟨_, _, rfl, ⟨v0, rfl, g0⟩, ⟨_, _, rfl, rfl, rfl⟩⟩ := h
  exact ⟨v0, rfl, g0⟩
theorem k65_mk (w : World) (x : S65) {A0 : Option Addr} {c0 : Nat} (l0 : x.f0.length ≤ c0) (g0 : (Kd.int .i64).C w A0 x.f0.length x.f0) : k65.K w x [.slice A0 x.f0.length c0, .int .i64 x.f1, .int .i64 x.f2] := ⟨[.slice A0 x.f0.length c0], [.int .i64 x.f1, .int .i64 x.f2], rfl, ⟨A0, c0, rfl, l0, g0⟩, ⟨[.int .i64 x.f1], [.int .i64 x.f2], rfl, rfl, rfl⟩⟩
theorem k65_mkM (w : World) (base : Nat) (ok : Nat → Prop) (x : S65) {v0 : Value} (g0 : (Kd.int .i64).R 3 w base ok v0 x.f0) : k65.M w base ok x [v0, .int .i64 x.f1, .int .i64 x.f2] := ⟨[v0], [.int .i64 x.f1, .int .i64 x.f2], rfl, ⟨v0, rfl, g0⟩, ⟨[.int .i64 x.f1], [.int .i64 x.f2], rfl, rfl, rfl⟩⟩
theorem k65_openF {W : World} {ok : Nat → Prop} {x : S65} {cs : List Value} (h : Kd.FK k65 W ok x cs) : ∃ A0 c0, cs = [.slice A0 x.f0.length c0, .int .i64 x.f1, .int .i64 x.f2] ∧ x.f0.length ≤ c0 ∧ Kd.F (Kd.int .i64) W ok A0 x.f0.length x.f0 := by
  obtain ⟨A0, c0, rfl, l0, _⟩ := k65_open (Kd.FK_now h)
  exact ⟨A0, c0, rfl, l0, (fun W' hW => by obtain ⟨A0_, c0_, he, l0_, g0_⟩ := k65_open (h W' hW); injection (Option.some.inj (show some (Value.slice A0 x.f0.length c0) = some (Value.slice A0_ x.f0.length c0_) from congrArg (fun l => l[0]?) he)) with ha_ _ _; rw [ha_]; exact g0_)⟩
theorem k65_mkF (W : World) (ok : Nat → Prop) (x : S65) {A0 : Option Addr} {c0 : Nat} (l0 : x.f0.length ≤ c0) (g0 : Kd.F (Kd.int .i64) W ok A0 x.f0.length x.f0) : Kd.FK k65 W ok x [.slice A0 x.f0.length c0, .int .i64 x.f1, .int .i64 x.f2] := fun W2 hW => k65_mk W2 x l0 (g0 W2 hW)
def rd_T65 (xs : List S65) (i : Int) : S65 := xs.getD i.toNat z65
theorem at_T65 {w : World} {A : Option Addr} {n : Nat} {xs : List S65} (h : Kd.C k65 w A n xs) (i : Int) (h0 : 0 ≤ i) (h1 : i < n) : ∃ ad A0 c0, A = some ad ∧ w.cell? (ad.add (i.toNat * 3)) = some (.slice A0 (rd_T65 xs i).f0.length c0) ∧ w.cell? ⟨(ad.add (i.toNat * 3)).block, (ad.add (i.toNat * 3)).off + 1, none⟩ = some (.int .i64 (rd_T65 xs i).f1) ∧ w.cell? ⟨(ad.add (i.toNat * 3)).block, (ad.add (i.toNat * 3)).off + 2, none⟩ = some (.int .i64 (rd_T65 xs i).f2) ∧ (rd_T65 xs i).f0.length ≤ c0 ∧ (Kd.int .i64).C w A0 (rd_T65 xs i).f0.length (rd_T65 xs i).f0 := by
  obtain ⟨ad, c, e, _, hK, hc0⟩ := Kd.C_get h z65 i h0 h1
  have hc : ∀ j u, c[j]? = some u → w.cell? (ad.add (i.toNat * 3 + j)) = some u := hc0
  obtain ⟨A0, c0, rfl, l0, g0⟩ := k65_open hK
  exact ⟨ad, A0, c0, e, hc 0 _ rfl, by rw [← add_field _ _ 1 (by omega)]; exact hc 1 _ rfl, by rw [← add_field _ _ 2 (by omega)]; exact hc 2 _ rfl, l0, g0⟩

end Go.Proofs.Ytaohgllnoomaeaa.Fn
namespace Go.Proofs.Ytaohgllnoomaeaa.Fn
open Go.RowKit Go.Proofs.YtaohgllnoomaeaaW.PrintWords Go.Proofs.YtaohgllnoomaeaaW.PrintLast Go.Proofs.YtaohgllnoomaeaaW.PrintMore
attribute [local go_sem] max2_int min2_int max_two min_two max_three min_three max_four min_four   -- for this text's walks alone
set_option linter.unusedVariables false
set_option linter.unusedSimpArgs false

/-- A state of type 108 at block g of W; what its slices lead to came in by w0. -/
def IsS108 (w0 W : World) (g : Nat) (f0 : List Int) (f1 : Int) (f2 : Int) : Prop := ∃ A0 c0, W.heap[g]? = some (.cells #[.slice A0 f0.length c0, .int .i64 f1, .int .u64 f2] 108 (0, 0)) ∧ w0.heap.size ≤ g ∧ Kd.C (Kd.int .u8) w0 A0 f0.length f0
theorem IsS108.grown {w0 W : World} {g : Nat} {f0 : List Int} {f1 : Int} {f2 : Int} {W1 : World} {row : Option Nat} (h : IsS108 w0 W g f0 f1 f2) (hw : W.grownBy W1 row) (hne : some g ≠ row) : IsS108 w0 W1 g f0 f1 f2 := by
  obtain ⟨A0, c0, hb, hg, hr0⟩ := h
  exact ⟨A0, c0, blk_grown hb hw hne, hg, hr0⟩
theorem IsS108.own_neN {w0 W : World} {g : Nat} {f0 : List Int} {f1 : Int} {f2 : Int} {α : Type} {d : Kd α} {e : Nat} {base : Nat} {ok : Nat → Prop} {v : Value} {xs : List α} (h : IsS108 w0 W g f0 f1 f2) (ho : Kd.N d e W base ok v xs) (ht : e ≠ 108) : some g ≠ v.ownBlock := by
  obtain ⟨A0, c0, hb, hg, hr0⟩ := h
  exact Kd.N_ne ho hb ht
theorem IsS108.fresh {w0 W : World} {g : Nat} {f0 : List Int} {f1 : Int} {f2 : Int} (h : IsS108 w0 W g f0 f1 f2) : ∀ k, W.heap.size ≤ k → k ≠ g := by
  obtain ⟨A0, c0, hb, hg, hr0⟩ := h
  exact Kd.freshB hb
theorem IsS108.kept {w0 W : World} {g : Nat} {f0 : List Int} {f1 : Int} {f2 : Int} {W1 : World} {S : Nat → Prop} (h : IsS108 w0 W g f0 f1 f2) (hk : Kept W W1 S) (hne : ¬ S g) : IsS108 w0 W1 g f0 f1 f2 := by
  obtain ⟨A0, c0, hb, hg, hr0⟩ := h
  exact ⟨A0, c0, blk_kept hb hk hne, hg, hr0⟩
theorem IsS108.below {w0 W : World} {g : Nat} {f0 : List Int} {f1 : Int} {f2 : Int} {W1 : World} (h : IsS108 w0 W g f0 f1 f2) (hw : Below W.heap.size W W1) : IsS108 w0 W1 g f0 f1 f2 := h.grown (grown_of_below hw none) (by simp)
theorem IsS108.up {w0 W : World} {g : Nat} {f0 : List Int} {f1 : Int} {f2 : Int} {W1 W2 : World} (h : Aside0 (IsS108 w0 W g f0 f1 f2)) (hb : Below W1.heap.size W1 W2) (hm : Below W.heap.size W W1 := by (with_reducible repeat (first | exact Below.refl _ _ | apply below_alloc | apply pw_below_drewN | apply below_drew1))) : Aside0 (IsS108 w0 W2 g f0 f1 f2) := ⟨IsS108.below h.out (hm.trans (hb.mono hm.size))⟩
theorem IsS108.at {w0 W : World} {g : Nat} {f0 : List Int} {f1 : Int} {f2 : Int} {W1 : World} (h : Aside0 (IsS108 w0 W g f0 f1 f2)) (hm : Below W.heap.size W W1 := by (with_reducible repeat (first | exact Below.refl _ _ | apply below_alloc | apply pw_below_drewN | apply below_drew1))) : IsS108 w0 W1 g f0 f1 f2 := IsS108.below h.out hm
theorem IsS108.alloc {w0 W : World} {g : Nat} {f0 : List Int} {f1 : Int} {f2 : Int} (h : IsS108 w0 W g f0 f1 f2) (o : Obj) : IsS108 w0 (W.alloc o) g f0 f1 f2 := h.below (below_alloc (Below.refl _ _) o)
theorem IsS108.drewN {w0 W : World} {g : Nat} {f0 : List Int} {f1 : Int} {f2 : Int} (h : IsS108 w0 W g f0 f1 f2) (m : Nat) : IsS108 w0 (W.drewN m) g f0 f1 f2 := h
theorem IsS108.drew {w0 W : World} {g : Nat} {f0 : List Int} {f1 : Int} {f2 : Int} (h : IsS108 w0 W g f0 f1 f2) : IsS108 w0 W.drew g f0 f1 f2 := h
theorem IsS108.at_ {w0 W : World} {g : Nat} {f0 : List Int} {f1 : Int} {f2 : Int} {w' : World} {m : Nat} (hq : W.drewN m = w') (h : IsS108 w0 W g f0 f1 f2) : IsS108 w0 w' g f0 f1 f2 := by subst hq; exact IsS108.drewN h m
theorem IsS108.apart {w0 W : World} {g : Nat} {f0 : List Int} {f1 : Int} {f2 : Int} {α : Type} {d : Kd α} {e : Nat} {base : Nat} {ok : Nat → Prop} {v : Value} {xs : List α} (h : IsS108 w0 W g f0 f1 f2) (ho : d.R e W base ok v xs) (ht : ∀ q, q ∈ e :: d.E → q ≠ 108) : d.R e W base (fun k => ok k ∧ k ≠ g) v xs := by
  obtain ⟨A0, c0, hb, hg, hr0⟩ := h
  exact Kd.R_types ho hb ht
theorem IsS108.keepR {w0 W : World} {g : Nat} {f0 : List Int} {f1 : Int} {f2 : Int} {α : Type} {d : Kd α} {e : Nat} {base : Nat} {ok : Nat → Prop} {v : Value} {xs : List α} {Wr W1 W2 : World} (hI : Aside0 (IsS108 w0 W g f0 f1 f2)) (ho : Aside0 (Kd.R d e Wr base ok v xs)) (hk : KeepBut W1 W2 g none) (hm : Below W.heap.size W W1 := by (with_reducible repeat (first | exact Below.refl _ _ | apply below_alloc | apply pw_below_drewN | apply below_drew1))) (hn : Below Wr.heap.size Wr W1 := by (with_reducible repeat (first | exact Below.refl _ _ | apply below_alloc | apply pw_below_drewN | apply below_drew1))) (hd : ∀ q, q ∈ e :: d.E → q ≠ 108 := by decide) : Aside0 (Kd.R d e W2 base ok v xs) :=
  ⟨Kd.R_mono (Kd.R_keep (IsS108.apart (IsS108.below hI.out hm) (Kd.R_below ho.out hn) hd) hk (fun _ h => h.2)) (fun _ h => h.1)⟩
theorem IsS108.own_ne {w0 W : World} {g : Nat} {f0 : List Int} {f1 : Int} {f2 : Int} {α : Type} {d : Kd α} {e : Nat} {base : Nat} {ok : Nat → Prop} {v : Value} {xs : List α} (h : IsS108 w0 W g f0 f1 f2) (ho : d.R e W base ok v xs) (ht : e ≠ 108) : some g ≠ v.ownBlock := by
  obtain ⟨A0, c0, hb, hg, hr0⟩ := h
  exact Kd.R_ne ho hb ht
theorem IsS108.apartQ {w0 W : World} {g : Nat} {f0 : List Int} {f1 : Int} {f2 : Int} {α : Type} {d : Kd α} {e : Nat} {base : Nat} {ok : Nat → Prop} {v : Value} {xs : List α} (h : IsS108 w0 W g f0 f1 f2) (ho : d.Q e W base ok v xs) (ht : ∀ q, q ∈ e :: d.E → q ≠ 108) : d.Q e W base (fun k => ok k ∧ k ≠ g) v xs := by
  obtain ⟨A0, c0, hb, hg, hr0⟩ := h
  exact Kd.Q_types ho hb ht
theorem IsS108.own_neQ {w0 W : World} {g : Nat} {f0 : List Int} {f1 : Int} {f2 : Int} {α : Type} {d : Kd α} {e : Nat} {base : Nat} {ok : Nat → Prop} {v : Value} {xs : List α} (h : IsS108 w0 W g f0 f1 f2) (ho : d.Q e W base ok v xs) (ht : e ≠ 108) : some g ≠ v.ownBlock := by
  obtain ⟨A0, c0, hb, hg, hr0⟩ := h
  exact Kd.Q_ne ho hb ht
theorem IsS108.apartS {w0 W : World} {g : Nat} {f0 : List Int} {f1 : Int} {f2 : Int} {α : Type} {d : Kd α} {e : Nat} {base : Nat} {ok : Nat → Prop} {v : Value} {xs : List α} (h : IsS108 w0 W g f0 f1 f2) (ho : d.S e W base ok v xs) (ht : ∀ q, q ∈ e :: d.E → q ≠ 108) : d.S e W base (fun k => ok k ∧ k ≠ g) v xs := by
  obtain ⟨A0, c0, hb, hg, hr0⟩ := h
  exact Kd.S_types ho hb ht
theorem IsS108.keepS {w0 W : World} {g : Nat} {f0 : List Int} {f1 : Int} {f2 : Int} {α : Type} {d : Kd α} {e : Nat} {base : Nat} {ok : Nat → Prop} {v : Value} {xs : List α} {Wr W1 W2 : World} (hI : Aside0 (IsS108 w0 W g f0 f1 f2)) (ho : Aside0 (Kd.S d e Wr base ok v xs)) (hk : KeepBut W1 W2 g none) (hm : Below W.heap.size W W1 := by (with_reducible repeat (first | exact Below.refl _ _ | apply below_alloc | apply pw_below_drewN | apply below_drew1))) (hn : Below Wr.heap.size Wr W1 := by (with_reducible repeat (first | exact Below.refl _ _ | apply below_alloc | apply pw_below_drewN | apply below_drew1))) (hd : ∀ q, q ∈ e :: d.E → q ≠ 108 := by decide) : Aside0 (Kd.S d e W2 base ok v xs) :=
  ⟨Kd.S_mono (Kd.S_keep (IsS108.apartS (IsS108.below hI.out hm) (Kd.S_below ho.out hn) hd) hk (fun _ h => h.2)) (fun _ h => h.1)⟩
theorem IsS108.own_neS {w0 W : World} {g : Nat} {f0 : List Int} {f1 : Int} {f2 : Int} {α : Type} {d : Kd α} {e : Nat} {base : Nat} {ok : Nat → Prop} {v : Value} {xs : List α} (h : IsS108 w0 W g f0 f1 f2) (ho : d.S e W base ok v xs) (ht : e ≠ 108) : some g ≠ v.ownBlock := by
  obtain ⟨A0, c0, hb, hg, hr0⟩ := h
  exact Kd.S_ne ho hb ht
theorem IsS108.lt {w0 W : World} {g : Nat} {f0 : List Int} {f1 : Int} {f2 : Int} (h : IsS108 w0 W g f0 f1 f2) : g < W.heap.size := by
  obtain ⟨A0, c0, hb, hg, hr0⟩ := h
  exact blk_lt hb
theorem IsS108.ge {w0 W : World} {g : Nat} {f0 : List Int} {f1 : Int} {f2 : Int} (h : IsS108 w0 W g f0 f1 f2) : w0.heap.size ≤ g := by
  obtain ⟨A0, c0, hb, hg, hr0⟩ := h
  exact hg
theorem IsS108.ne_blk {w0 W : World} {g : Nat} {f0 : List Int} {f1 : Int} {f2 : Int} {a : Nat} {cs : Array Value} {t : TypeId} {fr : Nat × Nat} (h : IsS108 w0 W g f0 f1 f2) (hb2 : W.heap[a]? = some (.cells cs t fr)) (ht : t ≠ 108) : g ≠ a := by
  obtain ⟨A0, c0, hb, hg, hr0⟩ := h
  rintro rfl
  rw [hb] at hb2
  injection hb2 with hb2
  injection hb2 with _ ht2
  exact ht ht2.symm
theorem IsS108.far {w0 W : World} {g : Nat} {f0 : List Int} {f1 : Int} {f2 : Int} {p : Addr} (h : IsS108 w0 W g f0 f1 f2) (hne : g ≠ p.block) (u : Value) : IsS108 w0 (W.setCell p u) g f0 f1 f2 := by
  obtain ⟨A0, c0, hb, hg, hr0⟩ := h
  exact ⟨A0, c0, blk_far hb hne u, hg, hr0⟩
theorem cellS108_0 {W : World} {g : Nat} {A0 : Option Addr} {c0 : Nat} {f0 : List Int} {f1 : Int} {f2 : Int} (h : W.heap[g]? = some (.cells #[.slice A0 f0.length c0, .int .i64 f1, .int .u64 f2] 108 (0, 0))) : W.cell? ⟨g, 0, none⟩ = some (.slice A0 f0.length c0) := (blk_cell h 0).trans rfl
theorem cellS108_1 {W : World} {g : Nat} {A0 : Option Addr} {c0 : Nat} {f0 : List Int} {f1 : Int} {f2 : Int} (h : W.heap[g]? = some (.cells #[.slice A0 f0.length c0, .int .i64 f1, .int .u64 f2] 108 (0, 0))) : W.cell? ⟨g, 1, none⟩ = some (.int .i64 f1) := (blk_cell h 1).trans rfl
theorem IsS108.set_1 {w0 W : World} {g : Nat} {f0 : List Int} {f1 : Int} {f2 : Int} (h : IsS108 w0 W g f0 f1 f2) (x : Int) : IsS108 w0 (W.setCell ⟨g, 1, none⟩ (.int .i64 x)) g f0 x f2 := by
  obtain ⟨A0, c0, hb, hg, hr0⟩ := h
  exact ⟨A0, c0, by simpa using blk_set hb 1 (.int .i64 x), hg, hr0⟩
theorem cellS108_2 {W : World} {g : Nat} {A0 : Option Addr} {c0 : Nat} {f0 : List Int} {f1 : Int} {f2 : Int} (h : W.heap[g]? = some (.cells #[.slice A0 f0.length c0, .int .i64 f1, .int .u64 f2] 108 (0, 0))) : W.cell? ⟨g, 2, none⟩ = some (.int .u64 f2) := (blk_cell h 2).trans rfl
theorem IsS108.set_2 {w0 W : World} {g : Nat} {f0 : List Int} {f1 : Int} {f2 : Int} (h : IsS108 w0 W g f0 f1 f2) (x : Int) : IsS108 w0 (W.setCell ⟨g, 2, none⟩ (.int .u64 x)) g f0 f1 x := by
  obtain ⟨A0, c0, hb, hg, hr0⟩ := h
  exact ⟨A0, c0, by simpa using blk_set hb 2 (.int .u64 x), hg, hr0⟩
theorem IsS108.new (w0 W : World) (A0 : Option Addr) (c0 : Nat) (f0 : List Int) (f1 : Int) (f2 : Int) (hB : Below w0.heap.size w0 W) (hr0 : Kd.C (Kd.int .u8) w0 A0 f0.length f0) : IsS108 w0 (W.alloc (.cells #[.slice A0 f0.length c0, .int .i64 f1, .int .u64 f2] 108)) W.heap.size f0 f1 f2 := ⟨A0, c0, by simpa using heap_alloc_new W _, hB.size, hr0⟩

/-! ### spec_l1Cur_next: function 245 -/
def spec_l1Cur_next.f (s0_0 : List Int) (s0_1 : Int) (s0_2 : Int) : Option (Int × Int × Int) := if s0_1 < (s0_0.length : Int) then (if 0 ≤ s0_1 then (if (wrap64 (s0_1 + 1)) ≤ (s0_0.length : Int) then (some (wrap64 (rd s0_0 s0_1), wrap64 (s0_1 + 1), IntKind.u64.wrap ((IntKind.u64.wrap ((IntKind.u64.wrap (s0_2 * 6364136223846793005)) + (IntKind.u64.wrap (wrap64 (rd s0_0 s0_1))))) + 1442695040888963407))) else (some (wrap64 (Go.bits .and .u64 ((IntKind.u64.wrap ((IntKind.u64.wrap ((IntKind.u64.wrap (s0_2 * 6364136223846793005)) + (IntKind.u64.wrap (wrap64 (rd s0_0 s0_1))))) + 1442695040888963407)) / 1099511627776) 255), wrap64 (s0_1 + 1), IntKind.u64.wrap ((IntKind.u64.wrap ((IntKind.u64.wrap (s0_2 * 6364136223846793005)) + (IntKind.u64.wrap (wrap64 (rd s0_0 s0_1))))) + 1442695040888963407)))) else (none)) else (if (wrap64 (s0_1 + 1)) ≤ (s0_0.length : Int) then (some (0, wrap64 (s0_1 + 1), IntKind.u64.wrap ((IntKind.u64.wrap (IntKind.u64.wrap (s0_2 * 6364136223846793005))) + 1442695040888963407))) else (some (wrap64 (Go.bits .and .u64 ((IntKind.u64.wrap ((IntKind.u64.wrap (IntKind.u64.wrap (s0_2 * 6364136223846793005))) + 1442695040888963407)) / 1099511627776) 255), wrap64 (s0_1 + 1), IntKind.u64.wrap ((IntKind.u64.wrap (IntKind.u64.wrap (s0_2 * 6364136223846793005))) + 1442695040888963407))))
set_option maxHeartbeats 8000000 in
set_option maxRecDepth 100000 in
theorem spec_l1Cur_next.calls (g : Nat) (s0_0 : List Int) (s0_1 : Int) (s0_2 : Int) (r1 : Int) (r2 : Int) (r3 : Int) (w0 w : World) (hI : IsS108 w0 w g s0_0 s0_1 s0_2) (hB : Below w0.heap.size w0 w) (h : spec_l1Cur_next.f s0_0 s0_1 s0_2 = some (r1, r2, r3)) :
    Calls Try.prog 245 #[.pointer (some ⟨g, 0, none⟩)] w fun e w' => e = .returned (.int .i64 r1) ∧ IsS108 w0 w' g s0_0 r2 r3 ∧ Below w0.heap.size w0 w' ∧ KeepBut w w' g none := by
  have HI0 := Aside0.mk hI
  have HK := Aside0.mk (KeepBut.refl w g none)
  have HL := Aside0.mk hB.size
  clear hI
  have HW0 := Aside0.mk hB.size
  have HB := Aside0.mk hB
  clear hB
  have H : (if s0_1 < (s0_0.length : Int) then (if 0 ≤ s0_1 then (if (wrap64 (s0_1 + 1)) ≤ (s0_0.length : Int) then (some (wrap64 (rd s0_0 s0_1), wrap64 (s0_1 + 1), IntKind.u64.wrap ((IntKind.u64.wrap ((IntKind.u64.wrap (s0_2 * 6364136223846793005)) + (IntKind.u64.wrap (wrap64 (rd s0_0 s0_1))))) + 1442695040888963407))) else (some (wrap64 (Go.bits .and .u64 ((IntKind.u64.wrap ((IntKind.u64.wrap ((IntKind.u64.wrap (s0_2 * 6364136223846793005)) + (IntKind.u64.wrap (wrap64 (rd s0_0 s0_1))))) + 1442695040888963407)) / 1099511627776) 255), wrap64 (s0_1 + 1), IntKind.u64.wrap ((IntKind.u64.wrap ((IntKind.u64.wrap (s0_2 * 6364136223846793005)) + (IntKind.u64.wrap (wrap64 (rd s0_0 s0_1))))) + 1442695040888963407)))) else (none)) else (if (wrap64 (s0_1 + 1)) ≤ (s0_0.length : Int) then (some (0, wrap64 (s0_1 + 1), IntKind.u64.wrap ((IntKind.u64.wrap (IntKind.u64.wrap (s0_2 * 6364136223846793005))) + 1442695040888963407))) else (some (wrap64 (Go.bits .and .u64 ((IntKind.u64.wrap ((IntKind.u64.wrap (IntKind.u64.wrap (s0_2 * 6364136223846793005))) + 1442695040888963407)) / 1099511627776) 255), wrap64 (s0_1 + 1), IntKind.u64.wrap ((IntKind.u64.wrap (IntKind.u64.wrap (s0_2 * 6364136223846793005))) + 1442695040888963407))))) = some (r1, r2, r3) := h
  clear h
  by_cases c2 : s0_1 < (s0_0.length : Int)
  · rw [if_pos c2] at H
    have c2b0 : decide (s0_1 < (s0_0.length : Int)) = true := decide_eq_true c2
    clear c2
    by_cases c3 : 0 ≤ s0_1
    · rw [if_pos c3] at H
      have c3b0 : decide (0 ≤ s0_1) = true := decide_eq_true c3
      clear c3
      by_cases c4 : (wrap64 (s0_1 + 1)) ≤ (s0_0.length : Int)
      · rw [if_pos c4] at H
        have c4b0 : decide ((wrap64 (s0_1 + 1)) ≤ (s0_0.length : Int)) = true := decide_eq_true c4
        clear c4
        simp only [Option.some.injEq, Prod.mk.injEq] at H
        obtain ⟨rfl, rfl, rfl⟩ := H
        obtain ⟨ASz5_0, cSz5_0, HGz5, hgz5, HSz5_0⟩ := HI0.out
        have hcz5_0 := cellS108_0 HGz5
        have hcz5_1 := cellS108_1 HGz5
        have hcz5_2 := cellS108_2 HGz5
        have hfz5_1 := blk_frozen HGz5 1
        have hfz5_2 := blk_frozen HGz5 2
        clear HGz5 hgz5
        have p101 : 0 ≤ (s0_1 : Int) := of_decide_eq_true (by first | (with_reducible assumption) | assumption)
        have q101 : s0_1 < (s0_0.length : Int) := of_decide_eq_true (by first | (with_reducible assumption) | assumption)
        obtain ⟨ad101, e101, hx101_0⟩ := Kd.at_int HSz5_0 s0_1 p101 q101
        cases e101
        replace hx101_0 := pw_cell_below HB.out hx101_0
        replace p101 := eq_true p101
        replace q101 := eq_true q101
        go_enter Try.func245, Try.ntmps245
        go_wp2
        repeat (go_quiet (fail); try go_wp2)
        go_ret
        exact ⟨by first | rfl | (simp [errW_none, errW_some] <;> rfl) | (simp [*, errW_none, errW_some] <;> rfl), by repeat (first | (with_reducible first | exact HI0.out | apply IsS108.alloc | apply IsS108.drewN | apply IsS108.drew | apply IsS108.set_1 | apply IsS108.set_2) | exact HI0.out), by repeat (first | (with_reducible first | exact HB.out | apply below_alloc | apply pw_below_drewN | apply below_drew1 | refine below_set ?_ (IsS108.ge HI0.out)) | exact HB.out), by repeat (first | (with_reducible first | exact HK.out | apply KeepBut.set_ | apply keep_drewN | apply keep_drew | apply keep_alloc) | exact HK.out)⟩
      · rw [if_neg c4] at H
        have c4b0 : decide ((wrap64 (s0_1 + 1)) ≤ (s0_0.length : Int)) = false := decide_eq_false c4
        clear c4
        simp only [Option.some.injEq, Prod.mk.injEq] at H
        obtain ⟨rfl, rfl, rfl⟩ := H
        obtain ⟨ASz6_0, cSz6_0, HGz6, hgz6, HSz6_0⟩ := HI0.out
        have hcz6_0 := cellS108_0 HGz6
        have hcz6_1 := cellS108_1 HGz6
        have hcz6_2 := cellS108_2 HGz6
        have hfz6_1 := blk_frozen HGz6 1
        have hfz6_2 := blk_frozen HGz6 2
        clear HGz6 hgz6
        have p101 : 0 ≤ (s0_1 : Int) := of_decide_eq_true (by first | (with_reducible assumption) | assumption)
        have q101 : s0_1 < (s0_0.length : Int) := of_decide_eq_true (by first | (with_reducible assumption) | assumption)
        obtain ⟨ad101, e101, hx101_0⟩ := Kd.at_int HSz6_0 s0_1 p101 q101
        cases e101
        replace hx101_0 := pw_cell_below HB.out hx101_0
        replace p101 := eq_true p101
        replace q101 := eq_true q101
        go_enter Try.func245, Try.ntmps245
        go_wp2
        repeat (go_quiet (fail); try go_wp2)
        go_ret
        exact ⟨by first | rfl | (simp [errW_none, errW_some] <;> rfl) | (simp [*, errW_none, errW_some] <;> rfl), by repeat (first | (with_reducible first | exact HI0.out | apply IsS108.alloc | apply IsS108.drewN | apply IsS108.drew | apply IsS108.set_1 | apply IsS108.set_2) | exact HI0.out), by repeat (first | (with_reducible first | exact HB.out | apply below_alloc | apply pw_below_drewN | apply below_drew1 | refine below_set ?_ (IsS108.ge HI0.out)) | exact HB.out), by repeat (first | (with_reducible first | exact HK.out | apply KeepBut.set_ | apply keep_drewN | apply keep_drew | apply keep_alloc) | exact HK.out)⟩
    · rw [if_neg c3] at H
      exact absurd H (by simp)
  · rw [if_neg c2] at H
    have c2b0 : decide (s0_1 < (s0_0.length : Int)) = false := decide_eq_false c2
    clear c2
    by_cases c7 : (wrap64 (s0_1 + 1)) ≤ (s0_0.length : Int)
    · rw [if_pos c7] at H
      have c7b0 : decide ((wrap64 (s0_1 + 1)) ≤ (s0_0.length : Int)) = true := decide_eq_true c7
      clear c7
      simp only [Option.some.injEq, Prod.mk.injEq] at H
      obtain ⟨rfl, rfl, rfl⟩ := H
      obtain ⟨ASz8_0, cSz8_0, HGz8, hgz8, HSz8_0⟩ := HI0.out
      have hcz8_0 := cellS108_0 HGz8
      have hcz8_1 := cellS108_1 HGz8
      have hcz8_2 := cellS108_2 HGz8
      have hfz8_1 := blk_frozen HGz8 1
      have hfz8_2 := blk_frozen HGz8 2
      clear HGz8 hgz8
      go_enter Try.func245, Try.ntmps245
      go_wp2
      repeat (go_quiet (fail); try go_wp2)
      go_ret
      exact ⟨by first | rfl | (simp [errW_none, errW_some] <;> rfl) | (simp [*, errW_none, errW_some] <;> rfl), by repeat (first | (with_reducible first | exact HI0.out | apply IsS108.alloc | apply IsS108.drewN | apply IsS108.drew | apply IsS108.set_1 | apply IsS108.set_2) | exact HI0.out), by repeat (first | (with_reducible first | exact HB.out | apply below_alloc | apply pw_below_drewN | apply below_drew1 | refine below_set ?_ (IsS108.ge HI0.out)) | exact HB.out), by repeat (first | (with_reducible first | exact HK.out | apply KeepBut.set_ | apply keep_drewN | apply keep_drew | apply keep_alloc) | exact HK.out)⟩
    · rw [if_neg c7] at H
      have c7b0 : decide ((wrap64 (s0_1 + 1)) ≤ (s0_0.length : Int)) = false := decide_eq_false c7
      clear c7
      simp only [Option.some.injEq, Prod.mk.injEq] at H
      obtain ⟨rfl, rfl, rfl⟩ := H
      obtain ⟨ASz9_0, cSz9_0, HGz9, hgz9, HSz9_0⟩ := HI0.out
      have hcz9_0 := cellS108_0 HGz9
      have hcz9_1 := cellS108_1 HGz9
      have hcz9_2 := cellS108_2 HGz9
      have hfz9_1 := blk_frozen HGz9 1
      have hfz9_2 := blk_frozen HGz9 2
      clear HGz9 hgz9
      go_enter Try.func245, Try.ntmps245
      go_wp2
      repeat (go_quiet (fail); try go_wp2)
      go_ret
      exact ⟨by first | rfl | (simp [errW_none, errW_some] <;> rfl) | (simp [*, errW_none, errW_some] <;> rfl), by repeat (first | (with_reducible first | exact HI0.out | apply IsS108.alloc | apply IsS108.drewN | apply IsS108.drew | apply IsS108.set_1 | apply IsS108.set_2) | exact HI0.out), by repeat (first | (with_reducible first | exact HB.out | apply below_alloc | apply pw_below_drewN | apply below_drew1 | refine below_set ?_ (IsS108.ge HI0.out)) | exact HB.out), by repeat (first | (with_reducible first | exact HK.out | apply KeepBut.set_ | apply keep_drewN | apply keep_drew | apply keep_alloc) | exact HK.out)⟩


end Go.Proofs.Ytaohgllnoomaeaa.Fn
namespace Go.Proofs.Ytaohgllnoomaeaa.Fn
open Go.RowKit Go.Proofs.YtaohgllnoomaeaaW.PrintWords Go.Proofs.YtaohgllnoomaeaaW.PrintLast Go.Proofs.YtaohgllnoomaeaaW.PrintMore
attribute [local go_sem] max2_int min2_int max_two min_two max_three min_three max_four min_four   -- for this text's walks alone
set_option linter.unusedVariables false
set_option linter.unusedSimpArgs false

/-! ### spec_l1Cur_pick: function 171 -/
def spec_l1Cur_pick.f (s0_0 : List Int) (s0_1 : Int) (s0_2 : Int) (a1 : Int) : Option (Int × Int × Int) := if a1 ≤ 1 then (some (0, s0_1, s0_2)) else ((spec_l1Cur_next.f s0_0 s0_1 s0_2).bind fun bt102 => (if a1 > 200 then ((spec_l1Cur_next.f s0_0 bt102.2.1 bt102.2.2).bind fun bt105 => (if a1 = 0 then (none) else (some (Int.tmod (wrap64 ((wrap64 (bt102.1 * 256)) + bt105.1)) a1, bt105.2.1, bt105.2.2)))) else (if a1 = 0 then (none) else (some (Int.tmod bt102.1 a1, bt102.2.1, bt102.2.2)))))
set_option maxHeartbeats 8000000 in
set_option maxRecDepth 100000 in
theorem spec_l1Cur_pick.calls (g : Nat) (s0_0 : List Int) (s0_1 : Int) (s0_2 : Int) (a1 : Int) (r1 : Int) (r2 : Int) (r3 : Int) (w0 w : World) (hI : IsS108 w0 w g s0_0 s0_1 s0_2) (hB : Below w0.heap.size w0 w) (h : spec_l1Cur_pick.f s0_0 s0_1 s0_2 a1 = some (r1, r2, r3)) :
  Calls Try.prog 171 #[.pointer (some ⟨g, 0, none⟩), .int .i64 a1] w fun e w' => e = .returned (.int .i64 r1) ∧ IsS108 w0 w' g s0_0 r2 r3 ∧ Below w0.heap.size w0 w' ∧ KeepBut w w' g none := by
 have HI0 := Aside0.mk hI
 have HK := Aside0.mk (KeepBut.refl w g none)
 have HL := Aside0.mk hB.size
 clear hI
 have HW0 := Aside0.mk hB.size
 have HB := Aside0.mk hB
 clear hB
 have H := h
 unfold spec_l1Cur_pick.f at H
 clear h
 by_cases c3 : a1 ≤ 1
 ·rw [if_pos c3] at H
  have c3b0 : decide (a1 ≤ 1) = true := decide_eq_true c3
  clear c3
  simp only [Option.some.injEq, Prod.mk.injEq] at H
  obtain ⟨rfl, rfl, rfl⟩ := H
  go_enter Try.func171, Try.ntmps171
  go_wp2
  go_ret
  exact ⟨eqr, IsS108.at HI0, atB HB, atK HK⟩
 ·rw [if_neg c3] at H
  have c3b0 : decide (a1 ≤ 1) = false := decide_eq_false c3
  clear c3
  replace H := Option.bind_eq_some_iff.mp H
  obtain ⟨⟨t102, t103, t104⟩, A40, H⟩ := H
  replace H : (if a1 > 200 then ((spec_l1Cur_next.f s0_0 t103 t104).bind fun bt105 => (if a1 = 0 then (none) else (some (Int.tmod (wrap64 ((wrap64 (t102 * 256)) + bt105.1)) a1, bt105.2.1, bt105.2.2)))) else (if a1 = 0 then (none) else (some (Int.tmod t102 a1, t103, t104)))) = some (r1, r2, r3) := H
  have A4 := Aside0.mk A40
  clear A40
  by_cases c5 : a1 > 200
  ·rw [if_pos c5] at H
   have c5b0 : decide (200 < a1) = true := decide_eq_true c5
   clear c5
   replace H := Option.bind_eq_some_iff.mp H
   obtain ⟨⟨t105, t106, t107⟩, A60, H⟩ := H
   replace H : (if a1 = 0 then (none) else (some (Int.tmod (wrap64 ((wrap64 (t102 * 256)) + t105)) a1, t106, t107))) = some (r1, r2, r3) := H
   have A6 := Aside0.mk A60
   clear A60
   by_cases c7 : a1 = 0
   ·rw [if_pos c7] at H
    exact absurd H (by simp)
   ·rw [if_neg c7] at H
    have c7b0 : (a1 == 0) = false := beq_eq_false_iff_ne.mpr c7
    have c7b1 : (a1 != 0) = true := bne_iff_ne.mpr c7
    simp only [Option.some.injEq, Prod.mk.injEq] at H
    obtain ⟨rfl, rfl, rfl⟩ := H
    go_enter Try.func171, Try.ntmps171
    go_wp2_with (first | ((with_reducible refine gate_callee (f := 245) rfl ?_); refine goesA (some 9) Try.func245 #[.pointer (some ⟨g, 0, none⟩)] ?_; (with_reducible refine (spec_l1Cur_next.calls g s0_0 s0_1 s0_2 t102 t103 t104 w0 _ ?side1 ?side2 A4.out).mono ?_); (case side1 => exact IsS108.at HI0); (case side2 => exact atB HB); rintro e w8 ⟨rfl, hi, hb, hk⟩; refine ⟨_, rfl, ?_⟩; replace HK := upK HK hk; replace HB := Aside0.mk (hb); replace HI0 := Aside0.mk (hi); (try clear hb); (try clear hb2); (try clear hk); (try clear hi)) | ((with_reducible refine gate_callee (f := 245) rfl ?_); refine goesA (some 15) Try.func245 #[.pointer (some ⟨g, 0, none⟩)] ?_; (with_reducible refine (spec_l1Cur_next.calls g s0_0 t103 t104 t105 t106 t107 w0 _ ?side1 ?side2 A6.out).mono ?_); (case side1 => exact IsS108.at HI0); (case side2 => exact atB HB); rintro e w9 ⟨rfl, hi, hb, hk⟩; refine ⟨_, rfl, ?_⟩; replace HK := upK HK hk; replace HB := Aside0.mk (hb); replace HI0 := Aside0.mk (hi); (try clear hb); (try clear hb2); (try clear hk); (try clear hi)))
    go_ret
    exact ⟨eqr, IsS108.at HI0, atB HB, atK HK⟩
  ·rw [if_neg c5] at H
   have c5b0 : decide (200 < a1) = false := decide_eq_false c5
   clear c5
   by_cases c10 : a1 = 0
   ·rw [if_pos c10] at H
    exact absurd H (by simp)
   ·rw [if_neg c10] at H
    have c10b0 : (a1 == 0) = false := beq_eq_false_iff_ne.mpr c10
    have c10b1 : (a1 != 0) = true := bne_iff_ne.mpr c10
    simp only [Option.some.injEq, Prod.mk.injEq] at H
    obtain ⟨rfl, rfl, rfl⟩ := H
    go_enter Try.func171, Try.ntmps171
    go_wp2_with (first | ((with_reducible refine gate_callee (f := 245) rfl ?_); refine goesA (some 9) Try.func245 #[.pointer (some ⟨g, 0, none⟩)] ?_; (with_reducible refine (spec_l1Cur_next.calls g s0_0 s0_1 s0_2 t102 t103 t104 w0 _ ?side1 ?side2 A4.out).mono ?_); (case side1 => exact IsS108.at HI0); (case side2 => exact atB HB); rintro e w11 ⟨rfl, hi, hb, hk⟩; refine ⟨_, rfl, ?_⟩; replace HK := upK HK hk; replace HB := Aside0.mk (hb); replace HI0 := Aside0.mk (hi); (try clear hb); (try clear hb2); (try clear hk); (try clear hi)))
    go_ret
    exact ⟨eqr, IsS108.at HI0, atB HB, atK HK⟩


end Go.Proofs.Ytaohgllnoomaeaa.Fn
namespace Go.Proofs.Ytaohgllnoomaeaa.Fn
open Go.RowKit Go.Proofs.YtaohgllnoomaeaaW.PrintWords Go.Proofs.YtaohgllnoomaeaaW.PrintLast Go.Proofs.YtaohgllnoomaeaaW.PrintMore
attribute [local go_sem] max2_int min2_int max_two min_two max_three min_three max_four min_four   -- for this text's walks alone
set_option linter.unusedVariables false
set_option linter.unusedSimpArgs false

/-! ### spec_l1Own: function 194 -/
def spec_l1Own.f (l0 : List Int) : Option (List Int) := (some (([] : List Int) : List Int)).bind fun y132 => (if y132.length + l0.length < 17592186044416 then (some (y132 ++ l0)) else (none))
set_option maxHeartbeats 8000000 in
set_option maxRecDepth 100000 in
theorem spec_l1Own.calls (A0 : Option Addr) (c0 : Nat) (l0 : List Int) (r : List Int) (w : World) (hr0 : Kd.C (Kd.int .i64) w A0 l0.length l0) (hc0 : l0.length ≤ c0) (h : spec_l1Own.f l0 = some r) :
  Calls Try.prog 194 #[.slice A0 l0.length c0] w fun e w' => ∃ v0_ : Value, e = .returned (v0_) ∧ Kd.R (Kd.int .i64) 3 w' w.heap.size (fun _ => True) v0_ r ∧ Below w.heap.size w w' := by
 have HR0 := Aside0.mk hr0
 have HC0 := Aside0.mk hc0
 clear hr0 hc0
 have HB := Aside0.mk (Below.refl w.heap.size w)
 have H := h
 unfold spec_l1Own.f at H
 clear h
 obtain ⟨y132, hy132⟩ : ∃ y_ : List Int, y_ = (([] : List Int)) := ⟨_, rfl⟩
 replace H : (if y132.length + l0.length < 17592186044416 then (some (y132 ++ l0)) else (none)) = some r := by first | (rw [hy132]; with_reducible exact H) | (have H2_ := (Option.bind_some _ _).symm.trans H; rw [hy132]; with_reducible exact H2_) | (have H2_ := (Option.bind_some _ _).symm.trans H; with_reducible exact H2_) | with_reducible exact H | (rw [hy132]; exact H) | exact H
 have Ny132 := Aside0.mk hy132
 clear hy132
 by_cases c2 : y132.length + l0.length < 17592186044416
 ·rw [if_pos c2] at H
  have LMc2 := Aside0.mk c2
  clear c2
  obtain ⟨y135, hy135⟩ : ∃ y_ : List Int, y_ = (y132 ++ l0) := ⟨_, rfl⟩
  replace H : (some y135) = some r := by first | (rw [hy135]; with_reducible exact H) | (have H2_ := (Option.bind_some _ _).symm.trans H; rw [hy135]; with_reducible exact H2_) | (have H2_ := (Option.bind_some _ _).symm.trans H; with_reducible exact H2_) | with_reducible exact H | (rw [hy135]; exact H) | exact H
  have Ny135 := Aside0.mk hy135
  clear hy135
  obtain rfl := Option.some.inj H
  go_enter Try.func194, Try.ntmps194
  go_wp2_with (first | ((with_reducible refine gate_dst (N := 3) rfl ?_); refine Kd.R_lit (Kd.int .i64) _ 3 ?hg (N := 3) ?hd (xs := ([] : List Int)) (inner := []) (ok := fun _ => True) (okp := fun _ => True) ?hr ?hp (fun _ hk => hk) trivial (Below.refl _ _) (Nat.le_refl _) (by simp) ?_; (case hd => rfl); (case hg => rfl); (case hr => first | (go_simp; done) | (go_simp; rfl)); (case hp => exact (Reps.none _ _)); intro v133 w3 ho4 hb hg_ hnew_; clear hg_ hnew_; (first | rw [← Ny132.out] at ho4 | (simp only [Int.reduceToNat] at ho4; rw [← Ny132.out] at ho4)); have HO134 := lowR ho4 HB; replace HB := upB HB hb; clear hb ho4) | ((with_reducible refine gate_builtin (b := .append) (xs := #[.tmp 3, .tmp 4]) rfl ?_); at_builtin; refine Kd.R_append_rows (Kd.int .i64) (w0 := w) w.heap.size rfl (.tmp 3) (.tmp 4) 31 3 (.int .i64 0) 8 rfl Try.underlying31 info3 rfl (by decide) (by omega) v133 y132 l0 _ _ _ (fun _ => True) (fun _ => False) rfl rfl ?aO ?aR (fun _ _ h => h) (fun _ h => h.elim) ?aF ?aB ?aS ?aL ?_; (case aR => repeat (first | exact (Kd.C_below HR0.out HB.out) | (with_reducible refine Kd.C_alloc ?_ _) | (with_reducible refine Kd.C_drewN ?_ _) | (with_reducible refine Kd.C_drew ?_))); (case aB => exact (atB HB)); (case aF => exact (fun _ _ => trivial)); (case aO => exact (atR HO134)); (case aS => exact (szB HB)); (case aL => have := LMc2.out; omega); intro v136 w5 ho hb hg hat; rw [← Ny135.out] at ho; have HO137 := Aside0.mk (ho); replace HB := Aside0.mk (hb); clear HO134; clear ho hb hg hat))
  go_ret
  exact ⟨_, eqr, atR HO137, atB HB⟩
 ·rw [if_neg c2] at H
  exact absurd H (by simp)


end Go.Proofs.Ytaohgllnoomaeaa.Fn
namespace Go.Proofs.Ytaohgllnoomaeaa.Fn
open Go.RowKit Go.Proofs.YtaohgllnoomaeaaW.PrintWords Go.Proofs.YtaohgllnoomaeaaW.PrintLast Go.Proofs.YtaohgllnoomaeaaW.PrintMore
attribute [local go_sem] max2_int min2_int max_two min_two max_three min_three max_four min_four   -- for this text's walks alone
set_option linter.unusedVariables false
set_option linter.unusedSimpArgs false

/-! ### slices_Index_int_int: function 248 -/
def slices_Index_int_int.l0 : Nat → List Int → Int → Int → Int → Option (Int)
 | 0, _, _, _, _ => none
 | k + 1, x0, x1, x7, x8 => if x8 < x7 then (if 0 ≤ x8 then (if x8 < (x0.length : Int) then (if x1 = (rd x0 x8) then (some x8) else (slices_Index_int_int.l0 k x0 x1 x7 (wrap64 (x8 + 1)))) else (none)) else (none)) else (some (-1))
def slices_Index_int_int.f (k : Nat) (l0 : List Int) (a1 : Int) : Option (Int) := slices_Index_int_int.l0 k l0 a1 (l0.length : Int) 0
theorem slices_Index_int_int.mono_l : ∀ k, (∀ y0 y1 y2 y3, LeO (slices_Index_int_int.l0 k y0 y1 y2 y3) (slices_Index_int_int.l0 (k + 1) y0 y1 y2 y3))
 | 0 => fun _ _ _ _ r h => by simp [slices_Index_int_int.l0] at h
 | k + 1 => by
  have ih0 := slices_Index_int_int.mono_l k
  ·intro y0 y1 y2 y3
   unfold slices_Index_int_int.l0
   repeat' (first | (with_reducible first | exact ih0 _ _ _ _ | exact LeO.refl _ | exact LeO.none _ | refine LeO.ite ?_ ?_ | refine LeO.bind ?_ (fun _ => ?_)) | exact ih0 _ _ _ _ | exact LeO.none _ | refine LeO.ite ?_ ?_ | refine LeO.bind ?_ (fun _ => ?_))
theorem slices_Index_int_int.mono : ∀ a0 a1 k, LeO (slices_Index_int_int.f k a0 a1) (slices_Index_int_int.f (k + 1) a0 a1) := by
 intro a0 a1 k
 have ih0 := slices_Index_int_int.mono_l k
 unfold slices_Index_int_int.f
 repeat' (first | (with_reducible first | exact ih0 _ _ _ _ | exact LeO.refl _ | exact LeO.none _ | refine LeO.ite ?_ ?_ | refine LeO.bind ?_ (fun _ => ?_)) | exact ih0 _ _ _ _ | exact LeO.none _ | refine LeO.ite ?_ ?_ | refine LeO.bind ?_ (fun _ => ?_))
set_option maxHeartbeats 8000000 in
set_option maxRecDepth 100000 in
theorem slices_Index_int_int.calls (k : Nat) (A0 : Option Addr) (c0 : Nat) (l0 : List Int) (a1 : Int) (r : Int) (w : World) (hr0 : Kd.C (Kd.int .i64) w A0 l0.length l0) (hc0 : l0.length ≤ c0) (h : slices_Index_int_int.f k l0 a1 = some r) :
  Calls Try.prog 248 #[.slice A0 l0.length c0, .int .i64 a1] w fun e w' => e = .returned (.int .i64 r) ∧ Drawn0 w w' := by
 have HR0 := Aside0.mk hr0
 have HC0 := Aside0.mk hc0
 clear hr0 hc0
 have H := h
 unfold slices_Index_int_int.f at H
 clear h
 have H' := Aside0.mk H
 clear H
 go_enter Try.func248, Try.ntmps248
 go_wp2
 go_loopg [8] k (fun kq v8 w' => ∃ (x8_1 : Int), v8 = .int .i64 x8_1 ∧ Aside0 (slices_Index_int_int.l0 kq l0 a1 (l0.length : Int) x8_1 = some r) ∧ Aside0 (kq ≤ k) ∧ Drawn0 w w')
 case atStart => exact ⟨(0), eqd, H', ⟨Nat.le_refl _⟩, by repeat (first | exact Drawn0.refl _ | apply Drawn0.step)⟩
 case round =>
  clear H'
  try clear c2
  try clear p2
  obtain ⟨x8_1, rfl, HA, HK1, ⟨m1, rfl⟩⟩ := hrel
  cases gk with
  | zero => exact absurd HA.out (by simp [slices_Index_int_int.l0])
  | succ k1 =>
   have H := HA.out
   clear HA
   simp only [slices_Index_int_int.l0] at H
   by_cases c3 : x8_1 < (l0.length : Int)
   ·rw [if_pos c3] at H
    have c3b0 : decide (x8_1 < (l0.length : Int)) = true := decide_eq_true c3
    clear c3
    by_cases c4 : 0 ≤ x8_1
    ·rw [if_pos c4] at H
     have c4b0 : decide (0 ≤ x8_1) = true := decide_eq_true c4
     clear c4
     by_cases c5 : x8_1 < (l0.length : Int)
     ·rw [if_pos c5] at H
      have c5b0 : decide (x8_1 < (l0.length : Int)) = true := decide_eq_true c5
      clear c5
      by_cases c6 : a1 = (rd l0 x8_1)
      ·rw [if_pos c6] at H
       have c6b0 : (a1 == (rd l0 x8_1)) = true := beq_iff_eq.mpr c6
       have c6b1 : (a1 != (rd l0 x8_1)) = false := bne_eq_false_iff_eq.mpr c6
       clear c6
       obtain rfl := Option.some.inj H
       have p129 : 0 ≤ (x8_1 : Int) := ofd
       have q129 : x8_1 < (l0.length : Int) := ofd
       obtain ⟨ad129, e129, hx129_0⟩ := Kd.at_int HR0.out x8_1 p129 q129
       cases e129
       replace p129 := eq_true p129
       replace q129 := eq_true q129
       go_wp2
       go_ret
       exact ⟨by first | rfl | (simp; done) | (simp [*]; done), by repeat (first | exact Drawn0.refl _ | apply Drawn0.step)⟩
      ·rw [if_neg c6] at H
       have c6b0 : (a1 == (rd l0 x8_1)) = false := beq_eq_false_iff_ne.mpr c6
       have c6b1 : (a1 != (rd l0 x8_1)) = true := bne_iff_ne.mpr c6
       have H' := Aside0.mk H
       clear H
       have p129 : 0 ≤ (x8_1 : Int) := ofd
       have q129 : x8_1 < (l0.length : Int) := ofd
       obtain ⟨ad129, e129, hx129_0⟩ := Kd.at_int HR0.out x8_1 p129 q129
       cases e129
       replace p129 := eq_true p129
       replace q129 := eq_true q129
       go_wp2
       go_roundg k1
       case measure => have := HK1.out; omega
       case rel => exact ⟨(wrap64 (x8_1 + 1)), eqd, H', ⟨by have := HK1.out; omega⟩, by repeat (first | exact Drawn0.refl _ | apply Drawn0.step)⟩
     ·rw [if_neg c5] at H
      exact absurd H (by simp)
    ·rw [if_neg c4] at H
     exact absurd H (by simp)
   ·rw [if_neg c3] at H
    have c3b0 : decide (x8_1 < (l0.length : Int)) = false := decide_eq_false c3
    clear c3
    obtain rfl := Option.some.inj H
    go_wp2
    go_ret
    exact ⟨by first | rfl | (simp; done) | (simp [*]; done), by repeat (first | exact Drawn0.refl _ | apply Drawn0.step)⟩

noncomputable def slices_Index_int_int.L0 (x0 : List Int) (x1 : Int) (x7 : Int) (x8 : Int) : Option (Int) := lim fun k => slices_Index_int_int.l0 k x0 x1 x7 x8
theorem slices_Index_int_int.L0_lim (x0 : List Int) (x1 : Int) (x7 : Int) (x8 : Int) : Lim (fun k => slices_Index_int_int.l0 k x0 x1 x7 x8) (slices_Index_int_int.L0 x0 x1 x7 x8) := Lim.of fun k => (slices_Index_int_int.mono_l k) x0 x1 x7 x8
noncomputable def slices_Index_int_int.F (l0 : List Int) (a1 : Int) : Option (Int) := lim fun k => slices_Index_int_int.f k l0 a1
theorem slices_Index_int_int.F_lim (l0 : List Int) (a1 : Int) : Lim (fun k => slices_Index_int_int.f k l0 a1) (slices_Index_int_int.F l0 a1) := Lim.of fun k => slices_Index_int_int.mono l0 a1 k
theorem slices_Index_int_int.L0_eq (x0 : List Int) (x1 : Int) (x7 : Int) (x8 : Int) : slices_Index_int_int.L0 x0 x1 x7 x8 = (if x8 < x7 then (if 0 ≤ x8 then (if x8 < (x0.length : Int) then (if x1 = (rd x0 x8) then (some x8) else (slices_Index_int_int.L0 x0 x1 x7 (wrap64 (x8 + 1)))) else (none)) else (none)) else (some (-1))) :=
 Lim.step (f := fun k => slices_Index_int_int.l0 (k + 1) x0 x1 x7 x8) (slices_Index_int_int.L0_lim x0 x1 x7 x8) (fun _ => rfl) (by
  simp only [slices_Index_int_int.l0]
  repeat' (first | (with_reducible first | exact Lim.const _ | exact slices_Index_int_int.L0_lim _ _ _ _ | refine Lim.ite ?_ ?_ | refine Lim.bind ?_ (fun _ => ?_))))
theorem slices_Index_int_int.F_eq (l0 : List Int) (a1 : Int) : slices_Index_int_int.F l0 a1 = (slices_Index_int_int.L0 l0 a1 (l0.length : Int) 0) :=
 Lim.unique (slices_Index_int_int.F_lim l0 a1) (by
  unfold slices_Index_int_int.f
  repeat' (first | (with_reducible first | exact Lim.const _ | exact slices_Index_int_int.L0_lim _ _ _ _ | refine Lim.ite ?_ ?_ | refine Lim.bind ?_ (fun _ => ?_))))

end Go.Proofs.Ytaohgllnoomaeaa.Fn
namespace Go.Proofs.Ytaohgllnoomaeaa.Fn
open Go.RowKit Go.Proofs.YtaohgllnoomaeaaW.PrintWords Go.Proofs.YtaohgllnoomaeaaW.PrintLast Go.Proofs.YtaohgllnoomaeaaW.PrintMore
attribute [local go_sem] max2_int min2_int max_two min_two max_three min_three max_four min_four   -- for this text's walks alone
set_option linter.unusedVariables false
set_option linter.unusedSimpArgs false

/-! ### impl_fill: function 260 (given) -/
/-! ### the search: fill, with whatever function it calls -/
/-- The first free place; the row's length where there is none. -/
def freeAt : List Int → Nat
 | [] => 0
 | x :: l => if x = -1 then 0 else freeAt l + 1
theorem freeAt_le : ∀ l : List Int, freeAt l ≤ l.length
 | [] => Nat.le_refl _
 | x :: l => by
  have := freeAt_le l
  unfold freeAt
  split
  ·simp
  ·simp; omega
theorem freeAt_rd : ∀ l : List Int, freeAt l < l.length → rd l (freeAt l) = -1
 | [], h => by simp at h
 | x :: l, h => by
  unfold freeAt at h ⊢
  split
  ·rename_i hx
   simp [rd, hx]
  ·rename_i hx
   rw [if_neg hx] at h
   have := freeAt_rd l (by simpa using h)
   simpa [rd] using this
theorem index_free : ∀ (suf pre : List Int), (pre ++ suf).length < 4611686018427387904 → slices_Index_int_int.L0 (pre ++ suf) (-1) ((pre ++ suf).length : Int) (pre.length : Int) = some (if freeAt suf = suf.length then -1 else ((pre.length + freeAt suf : Nat) : Int))
 | [], pre, h => by
  rw [slices_Index_int_int.L0_eq, range_end]
  rfl
 | x :: suf, pre, h => by
  have e : (pre ++ [x]).length = pre.length + 1 := by simp
  rw [slices_Index_int_int.L0_eq, range_step, rd_mid, wrap_mid h, app_mid pre x suf, index_free suf (pre ++ [x]) (by simpa using h), e]
  by_cases hx : x = -1
  ·rw [if_pos hx.symm]
   simp [freeAt, hx]
  ·rw [if_neg (fun h => hx h.symm)]
   simp only [freeAt, if_neg hx, List.length_cons, Nat.add_right_cancel_iff]
   split
   ·rfl
   ·congr 2
    omega
theorem index_free_some (l : List Int) (h : l.length < 4611686018427387904) : ∃ k, slices_Index_int_int.f k l (-1) = some (if freeAt l = l.length then -1 else (freeAt l : Int)) := by
 refine Lim.rounds (slices_Index_int_int.F_lim l (-1)) ?_
 rw [slices_Index_int_int.F_eq]
 have := index_free l [] (by simpa using h)
 simpa using this
/-- The numbers that are left, from the i-th on: each that fits is put, what follows is looked for, and it is taken away again. -/
def fillLoop {σ : Type} (rec : σ → List Int → List Int → Option (σ × Bool)) (row told left : List Int) (shift : Int) : Nat → Nat → σ → Option (σ × Bool)
 | 0, _, s => some (s, false)
 | m + 1, i, s =>
  if rd left i = 0 ∨ (row.length : Int) ≤ freeAt row + rd left i + shift ∨ rd row (freeAt row + rd left i + shift) ≠ -1 ∨ (rd told (freeAt row) ≠ 0 ∧ rd told (freeAt row) ≠ rd left i) ∨ (rd told (freeAt row + rd left i + shift) ≠ 0 ∧ rd told (freeAt row + rd left i + shift) ≠ rd left i) then fillLoop rec row told left shift m (i + 1) s
  else (rec s ((row.set (freeAt row) (rd left i)).set (freeAt row + rd left i + shift).toNat (rd left i)) (left.set i 0)).bind fun p => if p.2 = true then some (p.1, true) else fillLoop rec row told left shift m (i + 1) p.1
def fillF {σ : Type} (each : σ → List Int → Option (σ × Bool)) (told : List Int) (shift : Int) : Nat → σ → List Int → List Int → Option (σ × Bool)
 | 0, _, _, _ => none
 | k + 1, s, row, left => if freeAt row = row.length then each s row else fillLoop (fillF each told shift k) row told left shift left.length 0 s
/-- What fill asks of the function that it calls: its state stands whatever happens at the blocks X; a call leaves X and all that is older than base as it is. -/
structure EachOk {σ : Type} (base : Nat) (X : Nat → Prop) (fid : FuncId) (caps : Array Value) (each : σ → List Int → Option (σ × Bool)) (I : σ → World → Prop) : Prop where
 fn : ∃ fn, Try.prog.funcs[fid]? = some fn ∧ (fn.name == "runtime.NumGoroutine") = false ∧ fn.body.isSome = true
 stable : ∀ s w w', I s w → w.heap.size ≤ w'.heap.size → (∀ k, k < w.heap.size → ¬ X k → w'.heap[k]? = w.heap[k]?) → I s w'
 call : ∀ s row A c w s' b, I s w → Kd.C (Kd.int .i64) w A row.length row → row.length ≤ c → row.length ≤ 1000 → each s row = some (s', b) → Calls Try.prog fid (#[.slice A row.length c] ++ caps) w fun e w' => e = .returned (.bool b) ∧ I s' w' ∧ Below base w w' ∧ (∀ k, X k → w'.heap[k]? = w.heap[k]?)
section
variable {P : Program} {ops : Array Oper} {Q : Exit → Act → World → Prop}
/-- A call of a function value that lies in a place. -/
theorem goesV_ {rest : List Oper} {oi : Oper} {a : Act} {w : World} (N : Option Tmp) (hd : oi.dst = N) (hg : oi.guard = none) {f : FuncId} {fn : Func} {p : Tmp} {xs : Array Operand} {ts : Array TypeId} {caps : Array Value} (hf : P.funcs[f]? = some fn) (hname : (fn.name == "runtime.NumGoroutine") = false) (hb : fn.body.isSome = true) (args : Array Value)
  (hop : oi.op = .call { callee := .value (.tmp p), args := xs, argTypes := ts }) (hv : a.eval (.tmp p) = .func (.func f) #[] caps) (hargs : xs.map a.eval = args)
  (h : Calls P f (args ++ caps) w fun e w' => ∃ v, e = .returned v ∧ wpList P ops Q rest (a.put N v) w') : wpList P ops Q (oi :: rest) a w := by
 refine wpList_plain hg fun K hK => ?_
 have he := enters_ hf hname hb (args ++ caps) w
 have hrun : (execOp a.eval oi).run P w = .ok (.enter f (args ++ caps)) w := by
  unfold execOp
  simp [hop, resolve, Deferred.ofValue, invoke, hv, hargs, he]
 unfold Oper.wp
 rw [hrun, Oper.upon_enter]
 refine h.mono fun e w'' hh => ?_
 obtain ⟨v, rfl, hk⟩ := hh
 subst hd
 exact hK _ _ hk
theorem gate_value {o : Oper} {rest : List Oper} {a : Act} {W : World} {p : Tmp} {xs : Array Operand} {ts : Array TypeId} (_ho : o.op = .call { callee := .value (.tmp p), args := xs, argTypes := ts }) (h : wpList P ops Q (o :: rest) a W) : wpList P ops Q (o :: rest) a W := h
end
/-- A block of whole numbers. -/
def IB (w : World) (g : Nat) (l : List Int) : Prop := w.heap[g]? = some (.cells (l.map (Value.int .i64)).toArray 3 (0, 0))
theorem IB.cell {w : World} {g : Nat} {l : List Int} (h : IB w g l) (j : Nat) (hj : j < l.length) : w.cell? ⟨g, j, none⟩ = some (.int .i64 (rd l j)) := by
 rw [blk_cell h j]
 simp [rd, hj]
theorem IB.cellI {w : World} {g : Nat} {l : List Int} (h : IB w g l) (j : Int) (h0 : 0 ≤ j) (hj : j < l.length) : w.cell? ⟨g, j.toNat, none⟩ = some (.int .i64 (rd l j)) := by
 have := h.cell j.toNat (by omega)
 rw [Int.toNat_of_nonneg h0] at this
 exact this
theorem IB.set {w W : World} {g : Nat} {l : List Int} (h : IB w g l) (j : Nat) (v : Int) (hw : W = w.setCell ⟨g, j, none⟩ (.int .i64 v)) : IB W g (l.set j v) := by
 subst hw
 refine blk_put h j _ ?_
 simp [List.map_set]
theorem IB.far {w W : World} {g g' : Nat} {l : List Int} (h : IB w g l) (hne : g ≠ g') (j : Nat) (v : Value) (hw : W = w.setCell ⟨g', j, none⟩ v) : IB W g l := by
 subst hw
 exact blk_far h (by simpa using hne) v
theorem add_block0 (g j : Nat) : (Addr.add ⟨g, 0, none⟩ j) = ⟨g, j, none⟩ := by
 unfold Addr.add
 split
 ·rename_i h
  rw [h]
 ·simp
theorem add_block (ad : Addr) (j : Nat) : (ad.add j).block = ad.block := by
 unfold Addr.add
 split <;> rfl
theorem IB.C {w : World} {g : Nat} {l : List Int} (h : IB w g l) (hl : l.length ≤ 1000) : Kd.C (Kd.int .i64) w (some ⟨g, 0, none⟩) l.length l := by
 refine Kd.C_of_reads (d := (0 : Int)) (h1 := fun _ => rfl) ⟨rfl, by omega, fun _ => ⟨_, rfl, fun j hj => ?_⟩⟩
 have := h.cell j hj
 simp only [rd, Int.toNat_natCast] at this
 rw [add_block0]
 exact this
/-- Cells that lie in a block that stays. -/
theorem told_same {w W : World} {ad : Addr} {l : List Int} (h : ∀ j, j < l.length → w.cell? (ad.add j) = some (.int .i64 (rd l j))) (hk : W.heap[ad.block]? = w.heap[ad.block]?) : ∀ j, j < l.length → W.cell? (ad.add j) = some (.int .i64 (rd l j)) := by
 intro j hj
 rw [← h j hj]
 simp only [World.cell?, add_block, hk]
/-- Whether a number is passed over. -/
def passed (row told : List Int) (a : Nat) (n t : Int) : Prop := n = 0 ∨ (row.length : Int) ≤ t ∨ rd row t ≠ -1 ∨ (rd told a ≠ 0 ∧ rd told a ≠ n) ∨ (rd told t ≠ 0 ∧ rd told t ≠ n)
theorem fillLoop_pass {σ : Type} {rec : σ → List Int → List Int → Option (σ × Bool)} {row told left : List Int} {shift : Int} {m i a : Nat} {s : σ} {n t : Int} (ha : freeAt row = a) (hn : rd left i = n) (ht : (a : Int) + n + shift = t) (h : passed row told a n t) : fillLoop rec row told left shift (m + 1) i s = fillLoop rec row told left shift m (i + 1) s := by
 subst ha
 subst hn
 subst ht
 exact if_pos h
theorem fillLoop_put {σ : Type} {rec : σ → List Int → List Int → Option (σ × Bool)} {row told left : List Int} {shift : Int} {m i a : Nat} {s : σ} {n t : Int} (ha : freeAt row = a) (hn : rd left i = n) (ht : (a : Int) + n + shift = t) (h : ¬ passed row told a n t) : fillLoop rec row told left shift (m + 1) i s = (rec s ((row.set a n).set t.toNat n) (left.set i 0)).bind fun p => if p.2 = true then some (p.1, true) else fillLoop rec row told left shift m (i + 1) p.1 := by
 subst ha
 subst hn
 subst ht
 exact if_neg h
theorem set_back {l : List Int} {a : Nat} {t : Int} {n v : Int} (ha : a < l.length) (ht0 : 0 ≤ t) (ht : t < l.length) (h1 : rd l a = v) (h2 : rd l t = v) : ((((l.set a n).set t.toNat n).set a v).set t.toNat v) = l := by
 apply List.ext_getElem?
 intro j
 simp only [rd] at h1 h2
 simp only [List.getElem?_set, List.length_set]
 have e1 : l[t.toNat]? = some v := by
  rw [← h2, List.getD_eq_getElem?_getD, List.getElem?_eq_getElem (by omega)]
  rfl
 have e2 : l[a]? = some v := by
  rw [← h1, List.getD_eq_getElem?_getD, Int.toNat_natCast, List.getElem?_eq_getElem (by omega)]
  rfl
 by_cases hj : t.toNat = j
 ·subst hj
  rw [if_pos rfl, if_pos (by omega), e1]
 ·rw [if_neg hj]
  by_cases hj2 : a = j
  ·subst hj2
   rw [if_pos rfl, if_pos (by omega), e2]
  ·rw [if_neg hj2, if_neg hj, if_neg hj2]
theorem set_back1 {l : List Int} {i : Nat} {n v : Int} (hi : i < l.length) (h : rd l i = n) : (l.set i v).set i n = l := by
 apply List.ext_getElem?
 intro j
 simp only [rd] at h
 simp only [List.getElem?_set, List.length_set]
 by_cases hj : i = j
 ·subst hj
  rw [if_pos rfl, if_pos hi, ← h, List.getD_eq_getElem?_getD, Int.toNat_natCast, List.getElem?_eq_getElem hi]
  rfl
 ·rw [if_neg hj, if_neg hj]
/-- Two rows that a call writes, and what stays. -/
structure At2 (base gr gl : Nat) (W w : World) (r l : List Int) : Prop where
 row : IB w gr r
 left : IB w gl l
 other : ∀ k, k ≠ gr → k ≠ gl → w.heap[k]? = W.heap[k]?
 size : w.heap.size = W.heap.size
 below : Below base W w
theorem size_setCell (w : World) (a : Addr) (v : Value) : (w.setCell a v).heap.size = w.heap.size := by
 simp [World.setCell]
theorem At2.putR {base gr gl : Nat} {W w w' : World} {r l : List Int} (h : At2 base gr gl W w r l) (hne : gr ≠ gl) (hb : base ≤ gr) (j : Nat) (v : Int) (hw : w' = w.setCell ⟨gr, j, none⟩ (.int .i64 v)) : At2 base gr gl W w' (r.set j v) l :=
 ⟨h.row.set j v hw, h.left.far (Ne.symm hne) j _ hw, fun k h1 h2 => by subst hw; exact (Below.heap_setCell w _ _ k h1).trans (h.other k h1 h2), by subst hw; rw [size_setCell]; exact h.size, by subst hw; exact h.below.setCell hb _⟩
theorem At2.putL {base gr gl : Nat} {W w w' : World} {r l : List Int} (h : At2 base gr gl W w r l) (hne : gr ≠ gl) (hb : base ≤ gl) (j : Nat) (v : Int) (hw : w' = w.setCell ⟨gl, j, none⟩ (.int .i64 v)) : At2 base gr gl W w' r (l.set j v) :=
 ⟨h.row.far hne j _ hw, h.left.set j v hw, fun k h1 h2 => by subst hw; exact (Below.heap_setCell w _ _ k h2).trans (h.other k h1 h2), by subst hw; rw [size_setCell]; exact h.size, by subst hw; exact h.below.setCell hb _⟩
theorem At2.refl {gr gl : Nat} {w : World} {r l : List Int} (base : Nat) (hr : IB w gr r) (hl : IB w gl l) : At2 base gr gl w w r l := ⟨hr, hl, fun _ _ _ => rfl, rfl, Below.refl _ _⟩
/-- Behind a number that was put and taken away again all is as before but the state. -/
theorem fill_end {σ : Type} {base : Nat} {X : Nat → Prop} {fid : FuncId} {caps : Array Value} {each : σ → List Int → Option (σ × Bool)} {I : σ → World → Prop} {gr gl : Nat} {w W0 w5 w8 w11 : World} {s2 : σ} {row left row1 left1 row2 left2 : List Int} (hI : I s2 w8) (hB : Below base w5 w8) (hX : ∀ k, X k → w8.heap[k]? = w5.heap[k]?) (E : EachOk base X fid caps each I)
  (a2 : At2 base gr gl W0 W0 row left) (a5 : At2 base gr gl W0 w5 row1 left1) (a11 : At2 base gr gl w8 w11 row2 left2) (hB2 : Below base w W0) (hX2 : ∀ k, X k → W0.heap[k]? = w.heap[k]?) (hXr : X gr) (hXl : X gl) (er : row2 = row) (el : left2 = left) : I s2 w11 ∧ Below base w w11 ∧ (∀ k, X k → w11.heap[k]? = w.heap[k]?) := by
 subst er
 subst el
 refine ⟨E.stable _ _ _ hI (by rw [a11.size]; exact Nat.le_refl _) (fun k _ hk => a11.other k (fun e => hk (e ▸ hXr)) (fun e => hk (e ▸ hXl))), hB2.trans (a5.below.trans (hB.trans a11.below)), fun k hk => ?_⟩
 by_cases e1 : k = gr
 ·subst e1
  exact a11.row.trans (a2.row.symm.trans (hX2 _ hk))
 ·by_cases e2 : k = gl
  ·subst e2
   exact a11.left.trans (a2.left.symm.trans (hX2 _ hk))
  ·exact (a11.other k e1 e2).trans ((hX k hk).trans ((a5.other k e1 e2).trans (hX2 k hk)))
set_option maxHeartbeats 16000000 in
set_option maxRecDepth 100000 in
theorem fill_calls {σ : Type} {base : Nat} {X : Nat → Prop} {fid : FuncId} {caps : Array Value} {each : σ → List Int → Option (σ × Bool)} {I : σ → World → Prop} (E : EachOk base X fid caps each I) (told : List Int) (ad : Addr) (ct : Nat) (shift : Int) (hs : 0 ≤ shift ∧ shift ≤ 1) (gr gl : Nat) (hXr : X gr) (hXl : X gl) (hne : gr ≠ gl) (hbr : base ≤ gr) (hbl : base ≤ gl) (htr : ad.block ≠ gr) (htl : ad.block ≠ gl) (htk : ad.block < base ∨ X ad.block) :
  ∀ (k : Nat) (s s' : σ) (b : Bool) (row left : List Int) (w : World), row.length = told.length → row.length ≤ 1000 → left.length ≤ 1000 → (∀ x ∈ left, 0 ≤ x ∧ x ≤ 1000) → I s w → IB w gr row → IB w gl left → (∀ j, j < told.length → w.cell? (ad.add j) = some (.int .i64 (rd told j))) → fillF each told shift k s row left = some (s', b) →
  Calls Try.prog 260 #[.slice (some ⟨gr, 0, none⟩) row.length row.length, .slice (some ad) told.length ct, .slice (some ⟨gl, 0, none⟩) left.length left.length, .int .i64 shift, .func (.func fid) #[] caps] w fun e w' => e = .returned (.bool b) ∧ I s' w' ∧ Below base w w' ∧ (∀ k, X k → w'.heap[k]? = w.heap[k]?) := by
 have HXr := Aside0.mk hXr
 have HXl := Aside0.mk hXl
 have HNE := Aside0.mk hne
 have HBR := Aside0.mk hbr
 have HBL := Aside0.mk hbl
 have HTR := Aside0.mk htr
 have HTL := Aside0.mk htl
 have HTK := Aside0.mk htk
 have HS := Aside0.mk hs
 clear hXr hXl hne hbr hbl htr htl htk hs
 obtain ⟨fn, hf1, hf2, hf3⟩ := E.fn
 have HF1 := Aside0.mk hf1
 have HF2 := Aside0.mk hf2
 have HF3 := Aside0.mk hf3
 clear hf1 hf2 hf3
 intro k
 induction k with
 | zero =>
  intro s s' b row left w _ _ _ _ _ _ _ _ h
  cases h
 | succ k ih =>
  intro s s' b row left w hlt hlr hll hlm hI hR hL hT h
  have IH := Aside0.mk ih
  have HLT := Aside0.mk hlt
  have HLR := Aside0.mk hlr
  have HLL := Aside0.mk hll
  have HLM := Aside0.mk hlm
  have HI := Aside0.mk hI
  have HR := Aside0.mk hR
  have HL := Aside0.mk hL
  have HT := Aside0.mk hT
  obtain ⟨ki, hki⟩ := index_free_some row (by omega)
  by_cases hfr : freeAt row = row.length
  ·rw [if_pos hfr] at hki
   have HKI := Aside0.mk hki
   have H := Aside0.mk (show each s row = some (s', b) by rw [← h]; exact (if_pos hfr).symm)
   clear ih hlt hlr hll hlm hI hR hL hT h hki hfr
   go_enter Try.func260, Try.ntmps260
   go_wp2_with (first | ((with_reducible refine gate_callee (f := 248) rfl ?_); refine goesA (some 17) Try.func248 #[.slice (some ⟨gr, 0, none⟩) row.length row.length, .int .i64 (-1)] ?_; (with_reducible refine (slices_Index_int_int.calls ki _ _ row (-1) (-1) _ ?side1 ?side2 HKI.out).mono ?_); (case side1 => exact HR.out.C HLR.out); (case side2 => exact Nat.le_refl _); rintro e w1 ⟨rfl, ⟨nd, rfl⟩⟩; refine ⟨_, rfl, ?_⟩) | ((with_reducible refine gate_value (p := 20) rfl ?_); refine goesV_ (some 22) rfl rfl HF1.out HF2.out HF3.out #[.slice (some ⟨gr, 0, none⟩) row.length row.length] rfl (by first | rfl | (simp [Act.eval]; done) | (simp [Act.eval]; rfl)) (by (try simp only [List.map_toArray, List.map_cons, List.map_nil]); first | done | rfl) ?_; (refine (E.call s row _ _ _ s' b ?side1 ?side2 ?side3 ?side4 H.out).mono ?_); (case side1 => exact E.stable _ _ _ HI.out (Nat.le_refl _) (fun _ _ _ => rfl)); (case side2 => exact HR.out.C HLR.out); (case side3 => exact Nat.le_refl _); (case side4 => exact HLR.out); rintro e w2 ⟨rfl, hI2, hB2, hX2⟩; refine ⟨_, rfl, ?_⟩; have HI2 := Aside0.mk hI2; have HB2 := Aside0.mk hB2; have HX2 := Aside0.mk hX2; clear hI2 hB2 hX2))
   go_ret
   exact ⟨rfl, HI2.out, (pw_below_drewN (Below.refl _ _) nd).trans HB2.out, HX2.out⟩
  ·rw [if_neg hfr] at hki
   have hfa : freeAt row < row.length := by have := freeAt_le row; omega
   have H := Aside0.mk (show fillLoop (fillF each told shift k) row told left shift left.length 0 s = some (s', b) by rw [← h]; exact (if_neg hfr).symm)
   obtain ⟨a, ha⟩ : ∃ a, freeAt row = a := ⟨_, rfl⟩
   rw [ha] at hki hfa
   have HKI := Aside0.mk hki
   have HA := Aside0.mk ha
   have HFA := Aside0.mk hfa
   have HF := Aside0.mk (show rd row a = -1 by rw [← ha]; exact freeAt_rd row (by omega))
   have ha0 : decide ((a : Int) < 0) = false := decide_eq_false (by omega)
   clear ih hlt hlr hll hlm hI hR hL hT h hki hfr ha hfa
   go_enter Try.func260, Try.ntmps260
   go_wp2_with (first | ((with_reducible refine gate_callee (f := 248) rfl ?_); refine goesA (some 17) Try.func248 #[.slice (some ⟨gr, 0, none⟩) row.length row.length, .int .i64 (-1)] ?_; (with_reducible refine (slices_Index_int_int.calls ki _ _ row (-1) (a : Int) _ ?side1 ?side2 HKI.out).mono ?_); (case side1 => exact HR.out.C HLR.out); (case side2 => exact Nat.le_refl _); rintro e w1 ⟨rfl, ⟨nd, rfl⟩⟩; refine ⟨_, rfl, ?_⟩))
   go_loopw [25] (fun v wr => ∃ (i : Nat) (s1 : σ), i ≤ left.length ∧ v = .int .i64 i ∧ Aside0 (I s1 wr) ∧ Aside0 (Below base w wr) ∧ Aside0 (∀ k, X k → wr.heap[k]? = w.heap[k]?) ∧ Aside0 (fillLoop (fillF each told shift k) row told left shift (left.length - i) i s1 = some (s', b))) (fun v _ => left.length - (intOf v).toNat)
   case atStart => exact ⟨0, s, Nat.zero_le _, rfl, ⟨E.stable _ _ _ HI.out (Nat.le_refl _) (fun _ _ _ => rfl)⟩, ⟨pw_below_drewN (Below.refl _ _) _⟩, ⟨fun _ _ => rfl⟩, ⟨by rw [Nat.sub_zero]; exact H.out⟩⟩
   case round =>
    obtain ⟨i, s1, hi, rfl, HI1, HB1, HX1, H1⟩ := hrel
    by_cases hlt : i < left.length
    ·have hR1 : IB wr gr row := (HX1.out gr HXr.out).trans HR.out
     have hL1 : IB wr gl left := (HX1.out gl HXl.out).trans HL.out
     have hT1 := told_same (W := wr) HT.out (HTK.out.elim (fun h => HB1.out.block _ h) (fun h => HX1.out _ h))
     obtain ⟨m, hm⟩ : ∃ m, left.length - i = m + 1 := ⟨left.length - i - 1, by omega⟩
     have hm2 : left.length - (i + 1) = m := by omega
     have h1 := H1.out
     rw [hm] at h1
     obtain ⟨n, hn⟩ : ∃ n, rd left i = n := ⟨_, rfl⟩
     have hn01 : 0 ≤ n ∧ n ≤ 1000 := by
      rw [← hn, rd_nat left i hlt]
      exact HLM.out _ (List.getElem_mem hlt)
     have hci : wr.cell? ⟨gl, i, none⟩ = some (.int .i64 n) := by rw [← hn]; exact hL1.cell i hlt
     obtain ⟨t, ht⟩ : ∃ t : Int, (a : Int) + n + shift = t := ⟨_, rfl⟩
     have hfa := HFA.out
     have hs := HS.out
     have hlr := HLR.out
     have hw1 : wrap64 (wrap64 ((a : Int) + n) + shift) = t := by rw [wrap_in (n := (a : Int) + n) (by omega) (by omega), wrap_in (by omega) (by omega), ht]
     have hw2 : IntKind.i64.wrap (IntKind.i64.wrap ((a : Int) + n) + shift) = t := by rw [i64_w, i64_w]; exact hw1
     have HT0 := Aside0.mk (show 0 ≤ t by omega)
     have HN := Aside0.mk hn
     have HN01 := Aside0.mk hn01
     have HTT := Aside0.mk ht
     have HM := Aside0.mk hm
     have HM2 := Aside0.mk hm2
     have HH := Aside0.mk h1
     have HR1 := Aside0.mk hR1
     have HL1 := Aside0.mk hL1
     have HT1 := Aside0.mk hT1
     have HLT1 := Aside0.mk hlt
     have hlt0 : decide ((i : Int) < (left.length : Int)) = true := decide_eq_true (by omega)
     have p0 : (0 ≤ (i : Int)) = True := eq_true (by omega)
     have q0 : ((i : Int) < (left.length : Int)) = True := eq_true (by omega)
     have HI0 := Aside0.mk hi
     have HWI := Aside0.mk (show wrap64 ((i : Int) + 1) = ((i + 1 : Nat) : Int) by have := HLL.out; rw [wrap_in (by omega) (by omega)]; rfl)
     clear H1 hn hn01 ht hm hm2 h1 hR1 hL1 hT1 hfa hs hlr
     go_upto_region 8 with (fail)
     rw [hw1]
     clear hw1 hw2
     go_cut [79] (fun v79 wc => ∃ x : Bool, v79 = .bool x ∧ Aside0 (Drawn0 wr wc) ∧ Aside0 (x = true ↔ passed row told a n t))
     case first =>
      by_cases c1 : n = 0
      ·have b1 : (n == 0) = true := beq_iff_eq.mpr c1
       have HP := Aside0.mk (show passed row told a n t from .inl c1)
       clear c1
       go_wp2
       go_meet
       case rel => exact ⟨true, rfl, ⟨by first | exact Drawn0.refl _ | exact ⟨_, rfl⟩⟩, ⟨⟨fun _ => HP.out, fun _ => rfl⟩⟩⟩
      have b1 : (n == 0) = false := beq_eq_false_iff_ne.mpr c1
      have C1 := Aside0.mk c1
      clear c1
      by_cases c2 : (row.length : Int) ≤ t
      ·have b2 : decide ((row.length : Int) ≤ t) = true := decide_eq_true c2
       have HP := Aside0.mk (show passed row told a n t from .inr (.inl c2))
       clear c2
       go_wp2
       go_meet
       case rel => exact ⟨true, rfl, ⟨by first | exact Drawn0.refl _ | exact ⟨_, rfl⟩⟩, ⟨⟨fun _ => HP.out, fun _ => rfl⟩⟩⟩
      have b2 : decide ((row.length : Int) ≤ t) = false := decide_eq_false c2
      have C2 := Aside0.mk c2
      clear c2
      have hcr := HR1.out.cellI t HT0.out (by have := C2.out; omega)
      have p1 : (0 ≤ t) = True := eq_true HT0.out
      have q1 : (t < (row.length : Int)) = True := eq_true (by have := C2.out; omega)
      obtain ⟨u, hu⟩ : ∃ u, rd row t = u := ⟨_, rfl⟩
      rw [hu] at hcr
      have HU := Aside0.mk hu
      clear hu
      by_cases c3 : u = -1
      rotate_left
      ·have b3 : (u != -1) = true := bne_iff_ne.mpr c3
       have HP := Aside0.mk (show passed row told a n t from .inr (.inr (.inl (by rw [HU.out]; exact c3))))
       clear c3
       go_wp2
       go_meet
       case rel => exact ⟨true, rfl, ⟨by first | exact Drawn0.refl _ | exact ⟨_, rfl⟩⟩, ⟨⟨fun _ => HP.out, fun _ => rfl⟩⟩⟩
      have b3 : (u != -1) = false := bne_eq_false_iff_eq.mpr c3
      have C3 := Aside0.mk c3
      clear c3
      have hca := HT1.out a (by have := HFA.out; have := HLT.out; omega)
      have hct := HT1.out t.toNat (by have := C2.out; have := HLT.out; have := HT0.out; omega)
      rw [Int.toNat_of_nonneg HT0.out] at hct
      have p2 : (0 ≤ (a : Int)) = True := eq_true (by omega)
      have q2 : ((a : Int) < (told.length : Int)) = True := eq_true (by have := HFA.out; have := HLT.out; omega)
      have q3 : (t < (told.length : Int)) = True := eq_true (by have := C2.out; have := HLT.out; omega)
      obtain ⟨ya, hya⟩ : ∃ u, rd told a = u := ⟨_, rfl⟩
      obtain ⟨yt, hyt⟩ : ∃ u, rd told t = u := ⟨_, rfl⟩
      rw [hya] at hca
      rw [hyt] at hct
      have HYA := Aside0.mk hya
      have HYT := Aside0.mk hyt
      clear hya hyt
      by_cases c4 : ya ≠ 0 ∧ ya ≠ n
      ·have b4 : (ya != 0) = true := bne_iff_ne.mpr c4.1
       have b5 : (ya != n) = true := bne_iff_ne.mpr c4.2
       have HP := Aside0.mk (show passed row told a n t from .inr (.inr (.inr (.inl (by rw [HYA.out]; exact c4)))))
       clear c4
       go_wp2
       go_meet
       case rel => exact ⟨true, rfl, ⟨by first | exact Drawn0.refl _ | exact ⟨_, rfl⟩⟩, ⟨⟨fun _ => HP.out, fun _ => rfl⟩⟩⟩
      have C4 := Aside0.mk c4
      by_cases c5 : yt ≠ 0 ∧ yt ≠ n
      ·have b6 : (yt != 0) = true := bne_iff_ne.mpr c5.1
       have b7 : (yt != n) = true := bne_iff_ne.mpr c5.2
       have HP := Aside0.mk (show passed row told a n t from .inr (.inr (.inr (.inr (by rw [HYT.out]; exact c5)))))
       clear c5
       by_cases c6 : ya = 0
       ·have b4 : (ya != 0) = false := bne_eq_false_iff_eq.mpr c6
        clear c6 c4
        go_wp2
        go_meet
        case rel => exact ⟨true, rfl, ⟨by first | exact Drawn0.refl _ | exact ⟨_, rfl⟩⟩, ⟨⟨fun _ => HP.out, fun _ => rfl⟩⟩⟩
       ·have b4 : (ya != 0) = true := bne_iff_ne.mpr c6
        have b5 : (ya != n) = false := bne_eq_false_iff_eq.mpr (Classical.byContradiction fun h => c4 ⟨c6, h⟩)
        clear c6 c4
        go_wp2
        go_meet
        case rel => exact ⟨true, rfl, ⟨by first | exact Drawn0.refl _ | exact ⟨_, rfl⟩⟩, ⟨⟨fun _ => HP.out, fun _ => rfl⟩⟩⟩
      have C5 := Aside0.mk c5
      have HP := Aside0.mk (show ¬ passed row told a n t from fun h => by
       rcases h with h | h | h | h | h
       ·exact C1.out h
       ·exact C2.out h
       ·rw [HU.out] at h; exact h C3.out
       ·rw [HYA.out] at h; exact C4.out h
       ·rw [HYT.out] at h; exact C5.out h)
      by_cases c6 : ya = 0
      ·have b4 : (ya != 0) = false := bne_eq_false_iff_eq.mpr c6
       by_cases c7 : yt = 0
       ·have b6 : (yt != 0) = false := bne_eq_false_iff_eq.mpr c7
        clear c6 c7 c4 c5
        go_wp2
        go_meet
        case rel => exact ⟨false, rfl, ⟨by first | exact Drawn0.refl _ | exact ⟨_, rfl⟩⟩, ⟨⟨fun h => by simp at h, fun h => absurd h HP.out⟩⟩⟩
       ·have b6 : (yt != 0) = true := bne_iff_ne.mpr c7
        have b7 : (yt != n) = false := bne_eq_false_iff_eq.mpr (Classical.byContradiction fun h => c5 ⟨c7, h⟩)
        clear c6 c7 c4 c5
        go_wp2
        go_meet
        case rel => exact ⟨false, rfl, ⟨by first | exact Drawn0.refl _ | exact ⟨_, rfl⟩⟩, ⟨⟨fun h => by simp at h, fun h => absurd h HP.out⟩⟩⟩
      ·have b4 : (ya != 0) = true := bne_iff_ne.mpr c6
       have b5 : (ya != n) = false := bne_eq_false_iff_eq.mpr (Classical.byContradiction fun h => c4 ⟨c6, h⟩)
       by_cases c7 : yt = 0
       ·have b6 : (yt != 0) = false := bne_eq_false_iff_eq.mpr c7
        clear c6 c7 c4 c5
        go_wp2
        go_meet
        case rel => exact ⟨false, rfl, ⟨by first | exact Drawn0.refl _ | exact ⟨_, rfl⟩⟩, ⟨⟨fun h => by simp at h, fun h => absurd h HP.out⟩⟩⟩
       ·have b6 : (yt != 0) = true := bne_iff_ne.mpr c7
        have b7 : (yt != n) = false := bne_eq_false_iff_eq.mpr (Classical.byContradiction fun h => c5 ⟨c7, h⟩)
        clear c6 c7 c4 c5
        go_wp2
        go_meet
        case rel => exact ⟨false, rfl, ⟨by first | exact Drawn0.refl _ | exact ⟨_, rfl⟩⟩, ⟨⟨fun h => by simp at h, fun h => absurd h HP.out⟩⟩⟩
     case rest =>
      obtain ⟨x, rfl, HDC, HPX⟩ := hcut
      obtain ⟨⟨ndc, rfl⟩⟩ := HDC
      cases x with
      | true =>
       have h2 := (fillLoop_pass (rec := fillF each told shift k) (m := m) (s := s1) HA.out HN.out HTT.out (HPX.out.1 rfl)).symm.trans HH.out
       have HH2 := Aside0.mk (show fillLoop (fillF each told shift k) row told left shift (left.length - (i + 1)) (i + 1) s1 = some (s', b) by rw [HM2.out]; exact h2)
       clear h2
       go_wp2
       go_roundw
       case rel => exact ⟨i + 1, s1, HLT1.out, congrArg (Value.int .i64) HWI.out, ⟨E.stable _ _ _ HI1.out (Nat.le_refl _) (fun _ _ _ => rfl)⟩, ⟨HB1.out.trans (pw_below_drewN (Below.refl _ _) _)⟩, ⟨fun k hk => HX1.out k hk⟩, HH2⟩
       case measure => have := HLT1.out; rw [HWI.out]; simp [intOf]; omega
      | false =>
       have hnp : ¬ passed row told a n t := fun h => by simpa using HPX.out.2 h
       have h2 := (fillLoop_put (rec := fillF each told shift k) (m := m) (s := s1) HA.out HN.out HTT.out hnp).symm.trans HH.out
       have htl : t < (row.length : Int) := by
        rcases Int.lt_or_le t row.length with h | h
        ·exact h
        ·exact absurd (Or.inr (Or.inl h)) hnp
       have hrt : rd row t = -1 := Classical.byContradiction fun h => hnp (.inr (.inr (.inl h)))
       have HRT := Aside0.mk hrt
       have HTL1 := Aside0.mk htl
       clear hnp hrt
       obtain ⟨⟨s2, d⟩, hrec, h3⟩ := Option.bind_eq_some_iff.1 h2
       have HREC := Aside0.mk hrec
       have H3 := Aside0.mk h3
       clear h2 h3 hrec
       have p1 : (0 ≤ t) = True := eq_true HT0.out
       have q1 : (t < (row.length : Int)) = True := eq_true htl
       have p2 : (0 ≤ (a : Int)) = True := eq_true (by omega)
       have q2 : ((a : Int) < (row.length : Int)) = True := eq_true (by have := HFA.out; omega)
       clear htl
       have A2 := Aside0.mk (At2.refl (w := wr.drewN ndc) base HR1.out HL1.out)
       have HI2 := Aside0.mk (show I s1 (wr.drewN ndc) from E.stable _ _ _ HI1.out (Nat.le_refl _) (fun _ _ _ => rfl))
       have HB2 := Aside0.mk (show Below base w (wr.drewN ndc) from HB1.out.trans (pw_below_drewN (Below.refl _ _) _))
       have HX2 := Aside0.mk (show ∀ k, X k → (wr.drewN ndc).heap[k]? = w.heap[k]? from HX1.out)
       have HT2 := Aside0.mk (show ∀ j, j < told.length → (wr.drewN ndc).cell? (ad.add j) = some (.int .i64 (rd told j)) from HT1.out)
       generalize wr.drewN ndc = W0 at A2 HI2 HB2 HX2 HT2 ⊢
       have hc1 := A2.out.row.cell a HFA.out
       have hf1 := blk_frozen A2.out.row a
       have HCALL := Aside0.mk (show ∀ w7, At2 base gr gl W0 w7 ((row.set a n).set t.toNat n) (left.set i 0) → Calls Try.prog 260 #[.slice (some ⟨gr, 0, none⟩) row.length row.length, .slice (some ad) told.length ct, .slice (some ⟨gl, 0, none⟩) left.length left.length, .int .i64 shift, .func (.func fid) #[] caps] w7 fun e w' => e = .returned (.bool d) ∧ I s2 w' ∧ Below base w7 w' ∧ (∀ k, X k → w'.heap[k]? = w7.heap[k]?) from fun w7 h7 => by
        have h8 := IH.out s1 s2 d ((row.set a n).set t.toNat n) (left.set i 0) w7 (by simpa using HLT.out) (by simpa using HLR.out) (by simpa using HLL.out) (fun x hx => (List.mem_or_eq_of_mem_set hx).elim (HLM.out x) (fun e => by omega)) (E.stable _ _ _ HI2.out (by rw [h7.size]; exact Nat.le_refl _) (fun k _ hk => h7.other k (fun e => hk (e ▸ HXr.out)) (fun e => hk (e ▸ HXl.out)))) h7.row h7.left (told_same HT2.out (h7.other _ HTR.out HTL.out)) HREC.out
        rw [List.length_set, List.length_set, List.length_set] at h8
        exact h8)
       cases d with
       | true =>
        have h4 : s2 = s' ∧ true = b := by simpa using H3.out
        obtain ⟨rfl, rfl⟩ := h4
        clear H3
        go_wp2_with (first | ((with_reducible refine gate_store (t := 3) (p := 86) rfl ?_); refine store_event (t := 3) (p := 86) (v := ?voa) (w1 := (W0.setCell ⟨gr, a, none⟩ (.int .i64 n))) ?hg ?ho ?hn ?hr ?_; (case ho => rfl); (case hg => rfl); (case hn => rfl); (case hr => first | (go_simp; done) | (go_simp; rfl)); intro w3 hw3; have A3 := Aside0.mk (A2.out.putR HNE.out HBR.out a n hw3); clear hw3; have hc2 := A3.out.row.cellI t HT0.out (by have := HTL1.out; rw [List.length_set]; exact this); have hf2 := blk_frozen A3.out.row t.toNat) | ((with_reducible refine gate_store (t := 3) (p := 87) rfl ?_); refine store_event (t := 3) (p := 87) (v := ?vob) (w1 := (w3.setCell ⟨gr, t.toNat, none⟩ (.int .i64 n))) ?hg ?ho ?hn ?hr ?_; (case ho => rfl); (case hg => rfl); (case hn => rfl); (case hr => first | (go_simp; done) | (go_simp; rfl)); intro w4 hw4; have A4 := Aside0.mk (A3.out.putR HNE.out HBR.out t.toNat n hw4); clear hw4; have hc3 := A4.out.left.cell i HLT1.out; have hf3 := blk_frozen A4.out.left i) | ((with_reducible refine gate_store (t := 3) (p := 90) rfl ?_); refine store_event (t := 3) (p := 90) (v := ?voc) (w1 := (w4.setCell ⟨gl, i, none⟩ (.int .i64 0))) ?hg ?ho ?hn ?hr ?_; (case ho => rfl); (case hg => rfl); (case hn => rfl); (case hr => first | (go_simp; done) | (go_simp; rfl)); intro w5 hw5; have A5 := Aside0.mk (A4.out.putL HNE.out HBL.out i 0 hw5); clear hw5) | ((with_reducible refine gate_callee (f := 260) rfl ?_); refine goesA (some 96) Try.func260 #[.slice (some ⟨gr, 0, none⟩) row.length row.length, .slice (some ad) told.length ct, .slice (some ⟨gl, 0, none⟩) left.length left.length, .int .i64 shift, .func (.func fid) #[] caps] ?_; refine (HCALL.out w5 A5.out).mono ?_; rintro e w8 ⟨rfl, hI8, hB8, hX8⟩; refine ⟨_, rfl, ?_⟩; have HI8 := Aside0.mk hI8; have HB8 := Aside0.mk hB8; have HX8 := Aside0.mk hX8; clear hI8 hB8 hX8; have A8 := Aside0.mk (At2.refl base (show IB w8 gr _ from (HX8.out gr HXr.out).trans A5.out.row) (show IB w8 gl _ from (HX8.out gl HXl.out).trans A5.out.left)); have hc4 := A8.out.left.cell i (by rw [List.length_set]; exact HLT1.out); have hf4 := blk_frozen A8.out.left i) | ((with_reducible refine gate_store (t := 3) (p := 100) rfl ?_); refine store_event (t := 3) (p := 100) (v := ?vod) (w1 := (w8.setCell ⟨gl, i, none⟩ (.int .i64 n))) ?hg ?ho ?hn ?hr ?_; (case ho => rfl); (case hg => rfl); (case hn => rfl); (case hr => first | (go_simp; done) | (go_simp; rfl)); intro w9 hw9; have A9 := Aside0.mk (A8.out.putL HNE.out HBL.out i n hw9); clear hw9; have hc5 := A9.out.row.cell a (by rw [List.length_set, List.length_set]; exact HFA.out); have hf5 := blk_frozen A9.out.row a) | ((with_reducible refine gate_store (t := 3) (p := 105) rfl ?_); refine store_event (t := 3) (p := 105) (v := ?voe) (w1 := (w9.setCell ⟨gr, a, none⟩ (.int .i64 (-1)))) ?hg ?ho ?hn ?hr ?_; (case ho => rfl); (case hg => rfl); (case hn => rfl); (case hr => first | (go_simp; done) | (go_simp; rfl)); intro w10 hw10; have A10 := Aside0.mk (A9.out.putR HNE.out HBR.out a (-1) hw10); clear hw10; have hc6 := A10.out.row.cellI t HT0.out (by have := HTL1.out; rw [List.length_set, List.length_set, List.length_set]; exact this); have hf6 := blk_frozen A10.out.row t.toNat) | ((with_reducible refine gate_store (t := 3) (p := 106) rfl ?_); refine store_event (t := 3) (p := 106) (v := ?vof) (w1 := (w10.setCell ⟨gr, t.toNat, none⟩ (.int .i64 (-1)))) ?hg ?ho ?hn ?hr ?_; (case ho => rfl); (case hg => rfl); (case hn => rfl); (case hr => first | (go_simp; done) | (go_simp; rfl)); intro w11 hw11; have A11 := Aside0.mk (A10.out.putR HNE.out HBR.out t.toNat (-1) hw11); clear hw11))
        go_ret
        exact ⟨rfl, fill_end HI8.out HB8.out HX8.out E A2.out A5.out A11.out HB2.out HX2.out HXr.out HXl.out (set_back HFA.out HT0.out HTL1.out HF.out HRT.out) (set_back1 HLT1.out HN.out)⟩
       | false =>
        have HH2 := Aside0.mk (show fillLoop (fillF each told shift k) row told left shift (left.length - (i + 1)) (i + 1) s2 = some (s', b) by rw [HM2.out]; simpa using H3.out)
        clear H3
        go_wp2_with (first | ((with_reducible refine gate_store (t := 3) (p := 86) rfl ?_); refine store_event (t := 3) (p := 86) (v := ?voa) (w1 := (W0.setCell ⟨gr, a, none⟩ (.int .i64 n))) ?hg ?ho ?hn ?hr ?_; (case ho => rfl); (case hg => rfl); (case hn => rfl); (case hr => first | (go_simp; done) | (go_simp; rfl)); intro w3 hw3; have A3 := Aside0.mk (A2.out.putR HNE.out HBR.out a n hw3); clear hw3; have hc2 := A3.out.row.cellI t HT0.out (by have := HTL1.out; rw [List.length_set]; exact this); have hf2 := blk_frozen A3.out.row t.toNat) | ((with_reducible refine gate_store (t := 3) (p := 87) rfl ?_); refine store_event (t := 3) (p := 87) (v := ?vob) (w1 := (w3.setCell ⟨gr, t.toNat, none⟩ (.int .i64 n))) ?hg ?ho ?hn ?hr ?_; (case ho => rfl); (case hg => rfl); (case hn => rfl); (case hr => first | (go_simp; done) | (go_simp; rfl)); intro w4 hw4; have A4 := Aside0.mk (A3.out.putR HNE.out HBR.out t.toNat n hw4); clear hw4; have hc3 := A4.out.left.cell i HLT1.out; have hf3 := blk_frozen A4.out.left i) | ((with_reducible refine gate_store (t := 3) (p := 90) rfl ?_); refine store_event (t := 3) (p := 90) (v := ?voc) (w1 := (w4.setCell ⟨gl, i, none⟩ (.int .i64 0))) ?hg ?ho ?hn ?hr ?_; (case ho => rfl); (case hg => rfl); (case hn => rfl); (case hr => first | (go_simp; done) | (go_simp; rfl)); intro w5 hw5; have A5 := Aside0.mk (A4.out.putL HNE.out HBL.out i 0 hw5); clear hw5) | ((with_reducible refine gate_callee (f := 260) rfl ?_); refine goesA (some 96) Try.func260 #[.slice (some ⟨gr, 0, none⟩) row.length row.length, .slice (some ad) told.length ct, .slice (some ⟨gl, 0, none⟩) left.length left.length, .int .i64 shift, .func (.func fid) #[] caps] ?_; refine (HCALL.out w5 A5.out).mono ?_; rintro e w8 ⟨rfl, hI8, hB8, hX8⟩; refine ⟨_, rfl, ?_⟩; have HI8 := Aside0.mk hI8; have HB8 := Aside0.mk hB8; have HX8 := Aside0.mk hX8; clear hI8 hB8 hX8; have A8 := Aside0.mk (At2.refl base (show IB w8 gr _ from (HX8.out gr HXr.out).trans A5.out.row) (show IB w8 gl _ from (HX8.out gl HXl.out).trans A5.out.left)); have hc4 := A8.out.left.cell i (by rw [List.length_set]; exact HLT1.out); have hf4 := blk_frozen A8.out.left i) | ((with_reducible refine gate_store (t := 3) (p := 100) rfl ?_); refine store_event (t := 3) (p := 100) (v := ?vod) (w1 := (w8.setCell ⟨gl, i, none⟩ (.int .i64 n))) ?hg ?ho ?hn ?hr ?_; (case ho => rfl); (case hg => rfl); (case hn => rfl); (case hr => first | (go_simp; done) | (go_simp; rfl)); intro w9 hw9; have A9 := Aside0.mk (A8.out.putL HNE.out HBL.out i n hw9); clear hw9; have hc5 := A9.out.row.cell a (by rw [List.length_set, List.length_set]; exact HFA.out); have hf5 := blk_frozen A9.out.row a) | ((with_reducible refine gate_store (t := 3) (p := 105) rfl ?_); refine store_event (t := 3) (p := 105) (v := ?voe) (w1 := (w9.setCell ⟨gr, a, none⟩ (.int .i64 (-1)))) ?hg ?ho ?hn ?hr ?_; (case ho => rfl); (case hg => rfl); (case hn => rfl); (case hr => first | (go_simp; done) | (go_simp; rfl)); intro w10 hw10; have A10 := Aside0.mk (A9.out.putR HNE.out HBR.out a (-1) hw10); clear hw10; have hc6 := A10.out.row.cellI t HT0.out (by have := HTL1.out; rw [List.length_set, List.length_set, List.length_set]; exact this); have hf6 := blk_frozen A10.out.row t.toNat) | ((with_reducible refine gate_store (t := 3) (p := 106) rfl ?_); refine store_event (t := 3) (p := 106) (v := ?vof) (w1 := (w10.setCell ⟨gr, t.toNat, none⟩ (.int .i64 (-1)))) ?hg ?ho ?hn ?hr ?_; (case ho => rfl); (case hg => rfl); (case hn => rfl); (case hr => first | (go_simp; done) | (go_simp; rfl)); intro w11 hw11; have A11 := Aside0.mk (A10.out.putR HNE.out HBR.out t.toNat (-1) hw11); clear hw11))
        go_roundw
        case rel =>
         have R := fill_end HI8.out HB8.out HX8.out E A2.out A5.out A11.out HB2.out HX2.out HXr.out HXl.out (set_back HFA.out HT0.out HTL1.out HF.out HRT.out) (set_back1 HLT1.out HN.out)
         exact ⟨i + 1, s2, HLT1.out, congrArg (Value.int .i64) HWI.out, ⟨R.1⟩, ⟨R.2.1⟩, ⟨R.2.2⟩, HH2⟩
        case measure => have := HLT1.out; rw [HWI.out]; simp [intOf]; omega
    ·obtain rfl : i = left.length := by omega
     have h2 : s1 = s' ∧ false = b := by simpa [fillLoop] using H1.out
     obtain ⟨rfl, rfl⟩ := h2
     clear H1
     go_wp2
     go_ret
     exact ⟨rfl, HI1.out, HB1.out, HX1.out⟩
section
variable {P : Program} {ops : Array Oper} {rest : List Oper} {o : Oper} {a : Act} {Q : Exit → Act → World → Prop} {W : World} {K : Act → World → Prop}
theorem made_zeros (n : Nat) : madeCells (Value.int .i64 0).cells (n * 1) = ((List.replicate n (0 : Int)).map (Value.int .i64)).toArray := by
 apply Array.ext'
 simp only [madeCells, Value.cells, Nat.mul_one]
 rw [List.map_replicate, List.eq_replicate_iff]
 simp [Nat.mod_one]
theorem run_zeros (W : World) (n : Nat) (hl : n ≤ 1000) : (Instr.makeSlice 31 (.int .i64 (n : Int)) (.int .i64 (n : Int))).run Try.prog W = .ok (.slice (some ⟨W.heap.size, 0, none⟩) n n) (W.alloc (.cells ((List.replicate n (0 : Int)).map (Value.int .i64)).toArray 3)) := by
 obtain ⟨i0, hi, hzz⟩ := Option.map_eq_some_iff.1 info3
 simp only [Prod.mk.injEq] at hzz
 obtain ⟨hz0, hz1, hz2⟩ := hzz
 have hr := run_make (P := Try.prog) W 31 3 i0 (.int .i64 0) Try.underlying31 hi hz0 .i64 .i64 (n : Int) (n : Int) (by omega) (by omega) (by rw [hz2]; omega) (by omega)
 simp only [Int.toNat_natCast] at hr
 rw [hz1, made_zeros] at hr
 exact hr
theorem IB_below {w w1 : World} {g : Nat} {l : List Int} (h : IB w g l) (hb : Below w.heap.size w w1) : IB w1 g l := blk_below h hb
theorem IB_make_step {n : Nat} {N : Option Tmp} {x y : Operand} (hw : Region.wanted o (yielded ops a.tmps) = true) (hd : o.dst = N) (ho : o.op = .makeSlice 31 x y) (hx : a.eval x = .int .i64 (n : Int)) (hy : a.eval y = .int .i64 (n : Int)) (hl : n ≤ 1000)
  (h : ∀ w1, IB w1 W.heap.size (List.replicate n 0) → Below W.heap.size W w1 → K (a.put N (.slice (some ⟨W.heap.size, 0, none⟩) n n)) w1) : if Region.wanted o (yielded ops a.tmps) = true then Oper.wp Try.prog o a W K Q else K (a.put N undef) W := by
 refine value_ hw hd (v := .slice (some ⟨W.heap.size, 0, none⟩) n n) (w1 := W.alloc (.cells ((List.replicate n (0 : Int)).map (Value.int .i64)).toArray 3)) ?_ (h _ (heap_alloc_new _ _) (below_alloc (Below.refl _ _) _))
 simp [execOp, ho, hx, hy, run_zeros W n hl]
theorem IB_make_event (hgd : o.guard = none) {N : Tmp} (_hd : o.dst = some N) {n : Nat} {x y : Operand} (ho : o.op = .makeSlice 31 x y) (hx : a.eval x = .int .i64 (n : Int)) (hy : a.eval y = .int .i64 (n : Int)) (hl : n ≤ 1000)
  (h : ∀ g, g = W.heap.size → ∀ w1, IB w1 g (List.replicate n 0) → Below W.heap.size W w1 → wpList Try.prog ops Q rest (a.put o.dst (.slice (some ⟨g, 0, none⟩) n n)) w1) : wpList Try.prog ops Q (o :: rest) a W :=
 Kd.event_run hgd (by simp [execOp, ho, hx, hy, run_zeros W n hl]) (h _ rfl _ (heap_alloc_new _ _) (below_alloc (Below.refl _ _) _))
end
theorem set_at {pre : List Int} {i n : Nat} {v : Int} (hp : pre.length = i) (hi : i < n) : (pre ++ List.replicate (n - i) 0).set i v = (pre ++ [v]) ++ List.replicate (n - (i + 1)) 0 := by
 have e : n - i = (n - (i + 1)) + 1 := by omega
 rw [e, List.replicate_succ, List.set_append_right _ _ (by omega), hp, Nat.sub_self]
 simp
def numbersUp (a : Int) (n : Nat) : List Int := (List.range n).map fun i : Nat => a + (i : Int)
theorem numbersUp_succ (a : Int) (n : Nat) : numbersUp a (n + 1) = numbersUp a n ++ [a + (n : Int)] := by
 simp [numbersUp, List.range_succ]
theorem numbersUp_len (a : Int) (n : Nat) : (numbersUp a n).length = n := by simp [numbersUp]
theorem mem_numbersUp {a x : Int} {n : Nat} (h : x ∈ numbersUp a n) : a ≤ x ∧ x < a + n := by
 obtain ⟨i, hi, rfl⟩ := List.mem_map.1 h
 have := List.mem_range.1 hi
 omega


end Go.Proofs.Ytaohgllnoomaeaa.Fn
namespace Go.Proofs.Ytaohgllnoomaeaa.Fn
open Go.RowKit Go.Proofs.YtaohgllnoomaeaaW.PrintWords Go.Proofs.YtaohgllnoomaeaaW.PrintLast Go.Proofs.YtaohgllnoomaeaaW.PrintMore
attribute [local go_sem] max2_int min2_int max_two min_two max_three min_three max_four min_four   -- for this text's walks alone
set_option linter.unusedVariables false
set_option linter.unusedSimpArgs false

/-! ### spec_seLook_look: function 254 (given) -/
/-! ### the reference's search -/
/-- The first place that holds 0 and is not the hole. -/
def seAtFrom (hole : Int) : List Int → Nat → Nat
 | [], i => i
 | x :: l, i => if x = 0 ∧ (i : Int) ≠ hole then i else seAtFrom hole l (i + 1)
def seAt (hole : Int) (row : List Int) : Nat := seAtFrom hole row 0
theorem seAtFrom_is (hole : Int) : ∀ (l : List Int) (i a : Nat), a ≤ l.length → (∀ j : Nat, j < a → rd l j ≠ 0 ∨ ((i + j : Nat) : Int) = hole) → (a < l.length → rd l a = 0 ∧ ((i + a : Nat) : Int) ≠ hole) → seAtFrom hole l i = i + a
 | [], i, a, h, _, _ => by
  simp at h
  simp [seAtFrom, h]
 | x :: l, i, 0, _, _, h => by
  have := h (by simp)
  simp [rd] at this
  simp [seAtFrom, this]
 | x :: l, i, a + 1, h, h1, h2 => by
  have hx := h1 0 (by omega)
  simp [rd] at hx
  have hn : ¬ (x = 0 ∧ (i : Int) ≠ hole) := fun e => by
   rcases hx with hx | hx
   ·exact hx e.1
   ·exact e.2 hx
  have ih := seAtFrom_is hole l (i + 1) a (by simpa using h) (fun j hj => by
   have := h1 (j + 1) (by omega)
   rw [show i + (j + 1) = i + 1 + j by omega] at this
   simpa [rd] using this) (fun ha => by
   have := h2 (by simpa using ha)
   rw [show i + (a + 1) = i + 1 + a by omega] at this
   simpa [rd] using this)
  rw [seAtFrom, if_neg hn, ih]
  omega
theorem seAt_is {hole : Int} {l : List Int} {a : Nat} (h : a ≤ l.length) (h1 : ∀ j : Nat, j < a → rd l j ≠ 0 ∨ (j : Int) = hole) (h2 : a < l.length → rd l a = 0 ∧ (a : Int) ≠ hole) : seAt hole l = a := by
 have := seAtFrom_is hole l 0 a h (fun j hj => by simpa using h1 j hj) (fun ha => by simpa using h2 ha)
 simpa [seAt] using this
abbrev sePassed (hole : Int) (row : List Int) (used : Nat) (n t : Int) : Prop := used.testBit n.toNat = true ∨ (row.length : Int) ≤ t ∨ t = hole ∨ rd row t ≠ 0
abbrev SeSt := Nat × List (List Int)
def seLoop (rec : SeSt → List Int → Nat → Option SeSt) (hole shift : Int) (row : List Int) (used a : Nat) : Nat → Int → SeSt → Option SeSt
 | 0, _, s => some s
 | m + 1, n, s => if sePassed hole row used n ((a : Int) + n + shift) then seLoop rec hole shift row used a m (n + 1) s
  else (rec s ((row.set a n).set ((a : Int) + n + shift).toNat n) (used ||| 2 ^ n.toNat)).bind fun s' => seLoop rec hole shift row used a m (n + 1) s'
def seF (from_ to_ shift hole most : Int) : Nat → SeSt → List Int → Nat → Option SeSt
 | 0, _, _, _ => none
 | k + 1, s, row, used => if seAt hole row = row.length then (if s.1 < 1000000000000 ∧ s.2.length < 5864062014805 then some (s.1 + 1, if (s.2.length : Int) < most then s.2 ++ [row] else s.2) else none) else seLoop (seF from_ to_ shift hole most k) hole shift row used (seAt hole row) (to_ + 1 - from_).toNat from_ s
theorem seLoop_pass {rec : SeSt → List Int → Nat → Option SeSt} {hole shift n t : Int} {row : List Int} {used a q : Nat} {s : SeSt} (ht : (a : Int) + n + shift = t) (h : sePassed hole row used n t) : seLoop rec hole shift row used a (q + 1) n s = seLoop rec hole shift row used a q (n + 1) s := by
 subst ht
 exact if_pos h
theorem seLoop_put {rec : SeSt → List Int → Nat → Option SeSt} {hole shift n t : Int} {row : List Int} {used a q : Nat} {s : SeSt} (ht : (a : Int) + n + shift = t) (h : ¬ sePassed hole row used n t) : seLoop rec hole shift row used a (q + 1) n s = (rec s ((row.set a n).set t.toNat n) (used ||| 2 ^ n.toNat)).bind fun s' => seLoop rec hole shift row used a q (n + 1) s' := by
 subst ht
 exact if_neg h
theorem se_bit_int (u n : Nat) : ((u : Int) / 2 ^ n).tmod 2 = if u.testBit n = true then 1 else 0 := by
 have e : ((u : Int) / 2 ^ n) = ((u / 2 ^ n : Nat) : Int) := by simp
 have e2 : (2 : Int) = ((2 : Nat) : Int) := rfl
 rw [e, e2, ← Int.ofNat_tmod, Nat.testBit_eq_decide_div_mod_eq]
 have := Nat.mod_two_eq_zero_or_one (u / 2 ^ n)
 rcases this with h | h <;> simp [h]
theorem se_or_bit {u m : Nat} (hu : u < 2 ^ 60) (hm : m < 60) : bits BinOp.or IntKind.i64 (u : Int) (wrap64 (2 ^ m)) = ((u ||| 2 ^ m : Nat) : Int) := by
 have hp : 2 ^ m < 2 ^ 60 := Nat.pow_lt_pow_right (by decide) hm
 have e : wrap64 ((2 : Int) ^ m) = ((2 ^ m : Nat) : Int) := by
  have h2 : (2 : Int) ^ m = ((2 ^ m : Nat) : Int) := by simp
  rw [h2]
  generalize 2 ^ m = q at hp
  exact wrap_in (by omega) (by omega)
 rw [e]
 exact (bits_nat .i64 60 (by decide) (fun n h0 h1 => by rw [IntKind.wrap_i64]; omega) u (2 ^ m) hu hp).2
theorem nat_or_pow_clear (u m : Nat) (h : u.testBit m = false) (hu : u < 2 ^ 60) : ((BitVec.ofNat 64 (u ||| 2 ^ m)) &&& ~~~ (BitVec.ofNat 64 (2 ^ m))).toNat = u := by
 apply Nat.eq_of_testBit_eq
 intro i
 have h64 : ∀ i, 60 ≤ i → u.testBit i = false := fun i hi => Nat.testBit_lt_two_pow (Nat.lt_of_lt_of_le hu (Nat.pow_le_pow_right (by decide) hi))
 rw [BitVec.testBit_toNat]
 by_cases hi : i < 64
 ·simp only [BitVec.getLsbD_and, BitVec.getLsbD_not, BitVec.getLsbD_ofNat, hi, decide_true, Bool.true_and, Nat.testBit_or, Nat.testBit_two_pow]
  by_cases e : m = i
  ·subst e; simp [h]
  ·simp [e]
 ·rw [BitVec.getLsbD_of_ge _ _ (by omega), h64 i (by omega)]
theorem andNot_bit {u m : Nat} (hu : u < 2 ^ 60) (hm : m < 60) (h : u.testBit m = false) : bits BinOp.andNot IntKind.i64 ((u ||| 2 ^ m : Nat) : Int) (wrap64 (2 ^ m)) = (u : Int) := by
 have hp : 2 ^ m < 2 ^ 60 := Nat.pow_lt_pow_right (by decide) hm
 have e : wrap64 ((2 : Int) ^ m) = ((2 ^ m : Nat) : Int) := by
  have h2 : (2 : Int) ^ m = ((2 ^ m : Nat) : Int) := by simp
  rw [h2]
  generalize 2 ^ m = q at hp
  exact wrap_in (by omega) (by omega)
 rw [e]
 simp only [bits, BitVec.ofInt_natCast]
 have h1 := nat_or_pow_clear u m h hu
 rw [show IntKind.i64.bits = 64 from rfl, h1, i64_w]
 exact wrap_in (by omega) (by omega)
theorem se_cells_C {w : World} {ad : Addr} {l : List Int} (h : ∀ j, j < l.length → w.cell? (ad.add j) = some (.int .i64 (rd l j))) (hl : l.length ≤ 1000) : Kd.C (Kd.int .i64) w (some ad) l.length l := by
 refine Kd.C_of_reads (d := (0 : Int)) (h1 := fun _ => rfl) ⟨rfl, by omega, fun _ => ⟨_, rfl, fun j hj => ?_⟩⟩
 have := h j hj
 simpa only [rd, Int.toNat_natCast] using this
/-- The state of the search: the block at gS holds its fields, the block at gr the row; the rows that were kept lie apart from both. -/
structure SeI (base gS gr : Nat) (from_ to_ shift hole most : Int) (row : List Int) (used : Nat) (s : SeSt) (w : World) : Prop where
 out : ∃ v, w.heap[gS]? = some (.cells #[.slice (some ⟨gr, 0, none⟩) row.length row.length, .int .i64 from_, .int .i64 to_, .int .i64 shift, .int .i64 hole, .int .i64 (used : Int), .int .i64 most, .int .i64 (s.1 : Int), v] 96 (0, 0)) ∧ Kd.S (Kd.slice 3 (Kd.int .i64)) 31 w base (fun k => k ≠ gS ∧ k ≠ gr) v s.2
 row : IB w gr row
section
variable {base gS gr : Nat} {from_ to_ shift hole most : Int} {row : List Int} {used : Nat} {s : SeSt} {w w' : World}
theorem SeI.putRow (h : SeI base gS gr from_ to_ shift hole most row used s w) (hne : gS ≠ gr) (j : Nat) (v : Int) (hw : w' = w.setCell ⟨gr, j, none⟩ (.int .i64 v)) : SeI base gS gr from_ to_ shift hole most (row.set j v) used s w' := by
 obtain ⟨⟨u, h1, h2⟩, h3⟩ := h
 refine ⟨⟨u, ?_, ?_⟩, h3.set j v hw⟩
 ·rw [List.length_set, hw]
  exact (Below.heap_setCell _ _ _ _ hne).trans h1
 ·refine Kd.S_step h2 (fun k ho hl => ?_)
  rw [hw]
  exact Below.heap_setCell _ _ _ _ ho.2
theorem SeI.putUsed (h : SeI base gS gr from_ to_ shift hole most row used s w) (hne : gS ≠ gr) (u' : Nat) (hw : w' = w.setCell ⟨gS, 5, none⟩ (.int .i64 (u' : Int))) : SeI base gS gr from_ to_ shift hole most row u' s w' := by
 obtain ⟨⟨u, h1, h2⟩, h3⟩ := h
 refine ⟨⟨u, ?_, ?_⟩, h3.far hne.symm 5 _ hw⟩
 ·rw [hw]
  exact blk_put h1 5 _ rfl
 ·refine Kd.S_step h2 (fun k ho hl => ?_)
  rw [hw]
  exact Below.heap_setCell _ _ _ _ ho.1
theorem SeI.putCount (h : SeI base gS gr from_ to_ shift hole most row used s w) (hne : gS ≠ gr) (hw : w' = w.setCell ⟨gS, 7, none⟩ (.int .i64 ((s.1 + 1 : Nat) : Int))) : SeI base gS gr from_ to_ shift hole most row used (s.1 + 1, s.2) w' := by
 obtain ⟨⟨u, h1, h2⟩, h3⟩ := h
 refine ⟨⟨u, ?_, ?_⟩, h3.far hne.symm 7 _ hw⟩
 ·rw [hw]
  exact blk_put h1 7 _ rfl
 ·refine Kd.S_step h2 (fun k ho hl => ?_)
  rw [hw]
  exact Below.heap_setCell _ _ _ _ ho.1
theorem SeI.same (h : SeI base gS gr from_ to_ shift hole most row used s w) (hw : w'.heap = w.heap) : SeI base gS gr from_ to_ shift hole most row used s w' := by
 obtain ⟨⟨u, h1, h2⟩, h3⟩ := h
 refine ⟨⟨u, by rw [hw]; exact h1, Kd.S_step h2 (fun k ho hl => by rw [hw])⟩, ?_⟩
 unfold IB
 rw [hw]
 exact h3
theorem SeI.cast {row' : List Int} (h : SeI base gS gr from_ to_ shift hole most row used s w) (e : row = row') : SeI base gS gr from_ to_ shift hole most row' used s w := by
 subst e
 exact h
end
theorem se_set_back {row : List Int} {a t : Nat} {n : Int} (ha : rd row a = 0) (ht : rd row t = 0) : (((row.set a n).set t n).set a 0).set t 0 = row := by
 apply List.ext_getElem?
 intro j
 simp only [List.getElem?_set, List.length_set]
 by_cases e1 : t = j
 ·subst e1
  by_cases hl : t < row.length
  ·have : row[t]? = some (rd row t) := by unfold rd; rw [Int.toNat_natCast, List.getD_eq_getElem?_getD, List.getElem?_eq_getElem hl]; rfl
   rw [this, ht]
   simp [hl]
  ·simp [hl, List.getElem?_eq_none (Nat.le_of_not_lt hl)]
 ·simp only [e1, if_false]
  by_cases e2 : a = j
  ·subst e2
   by_cases hl : a < row.length
   ·have : row[a]? = some (rd row a) := by unfold rd; rw [Int.toNat_natCast, List.getD_eq_getElem?_getD, List.getElem?_eq_getElem hl]; rfl
    rw [this, ha]
    simp [hl]
   ·simp [hl, List.getElem?_eq_none (Nat.le_of_not_lt hl)]
  ·simp [e2]
set_option maxHeartbeats 16000000 in
set_option maxRecDepth 100000 in
theorem look_call {base gS gr : Nat} {from_ to_ shift hole most : Int} (hfr : 1 ≤ from_ ∧ from_ ≤ 20) (hto : 0 ≤ to_ ∧ to_ ≤ 40) (hs : 0 ≤ shift ∧ shift ≤ 1) (hne : gS ≠ gr) (hbS : base ≤ gS) (hbr : base ≤ gr) :
  ∀ (k : Nat) (s s' : SeSt) (row : List Int) (used : Nat) (w : World), base ≤ w.heap.size → 0 < row.length → row.length ≤ 100 → used < 2 ^ 60 → SeI base gS gr from_ to_ shift hole most row used s w → seF from_ to_ shift hole most k s row used = some s' →
  Calls Try.prog 254 #[.pointer (some ⟨gS, 0, none⟩)] w fun e w' => e = .returned (.tuple #[]) ∧ SeI base gS gr from_ to_ shift hole most row used s' w' ∧ Below base w w' := by
 have HFR := Aside0.mk hfr
 have HTO := Aside0.mk hto
 have HS := Aside0.mk hs
 have HNE := Aside0.mk hne
 have HBS := Aside0.mk hbS
 have HBR := Aside0.mk hbr
 clear hfr hto hs hne hbS hbr
 intro k
 induction k with
 | zero =>
  intro s s' row used w _ _ _ _ _ h
  cases h
 | succ k ih =>
  intro s s' row used w hb hr0 hr1 hus hI h
  have IH := Aside0.mk ih
  have HB0 := Aside0.mk hb
  have HR0 := Aside0.mk hr0
  have HR1 := Aside0.mk hr1
  have HUS := Aside0.mk hus
  have HI := Aside0.mk hI
  have H := Aside0.mk h
  have HOWN := Aside0.mk (show spec_l1Own.f row = some row from by
   unfold spec_l1Own.f
   simp only [Option.bind_some]
   rw [if_pos (by simp; omega)]
   simp)
  clear ih hb hr0 hus hI h
  obtain ⟨v, ho, hS⟩ := HI.out.out
  obtain ⟨A8, c8, e8⟩ := Kd.S_slice hS
  subst e8
  have HO := Aside0.mk ho
  have HS8 := Aside0.mk hS
  have hs0 := blk_cell ho 0
  have hs4 := blk_cell ho 4
  have hs7 := blk_cell ho 7
  have hs8 := blk_cell ho 8
  have hs6 := blk_cell ho 6
  have hs1 := blk_cell ho 1
  simp only [List.getElem?_toArray, List.getElem?_cons_zero, List.getElem?_cons_succ] at hs0 hs1 hs4 hs6 hs7 hs8
  clear ho hS
  go_enter Try.func254, Try.ntmps254
  go_wp2
  go_loopw [2] (fun v2 wr => ∃ i : Nat, i ≤ row.length ∧ v2 = .int .i64 i ∧ wr = w ∧ Aside0 (∀ j : Nat, j < i → rd row j ≠ 0 ∨ (j : Int) = hole)) (fun v _ => row.length - (intOf v).toNat)
  case atStart => exact ⟨0, Nat.zero_le _, rfl, rfl, ⟨fun j hj => by omega⟩⟩
  case round =>
   obtain ⟨i, hi, rfl, hwr, HZ⟩ := hrel
   have hw2 : w = wr := hwr.symm
   subst hw2
   clear hwr
   by_cases hlt : i < row.length
   ·have hci := HI.out.row.cell i hlt
    obtain ⟨y, hy⟩ : ∃ y, rd row i = y := ⟨_, rfl⟩
    rw [hy] at hci
    have HY := Aside0.mk hy
    have HLI := Aside0.mk hlt
    clear hy
    by_cases hz : y = 0
    ·have bz : (y != 0) = false := bne_eq_false_iff_eq.mpr hz
     by_cases hh : (i : Int) = hole
     ·have bh : ((i : Int) == hole) = true := beq_iff_eq.mpr hh
      have HH := Aside0.mk hh
      clear hz hh
      go_wp2
      go_roundw
      case rel => exact ⟨i + 1, HLI.out, by go_num, by first | trivial | rfl, ⟨fun j hj => by
       by_cases e : j = i
       ·rw [e]; exact .inr HH.out
       ·exact HZ.out j (by omega)⟩⟩
      case measure => simp [intOf]; have := HLI.out; omega
     ·have bh : ((i : Int) == hole) = false := beq_eq_false_iff_ne.mpr hh
      have be : ((i : Int) == (row.length : Int)) = false := beq_eq_false_iff_ne.mpr (by omega)
      have HA := Aside0.mk (seAt_is hi HZ.out (fun _ => ⟨by rw [HY.out]; exact hz, hh⟩))
      have HZ0 := Aside0.mk (show rd row i = 0 by rw [HY.out]; exact hz)
      clear hz hh
      go_wp2
      obtain ⟨M, hM⟩ : ∃ M, (to_ + 1 - from_).toNat = M := ⟨_, rfl⟩
      have h2 : seLoop (seF from_ to_ shift hole most k) hole shift row used i M from_ s = some s' := by
       have := H.out
       rw [seF, HA.out, if_neg (by have := HLI.out; omega), hM] at this
       exact this
      have H2 := Aside0.mk h2
      have HMM := Aside0.mk hM
      clear h2 H hs0 hs1 hs4 hs6 hs7 hs8 hci hM
      have hfr := HFR.out
      have hto := HTO.out
      have hs := HS.out
      go_loopw [3] (fun v3 wr => ∃ (m : Nat) (s1 : SeSt), m ≤ M ∧ v3 = .int .i64 (from_ + (m : Int)) ∧ Aside0 (SeI base gS gr from_ to_ shift hole most row used s1 wr) ∧ Aside0 (Below base w wr) ∧ Aside0 (seLoop (seF from_ to_ shift hole most k) hole shift row used i (M - m) (from_ + (m : Int)) s1 = some s')) (fun v _ => (from_ + (M : Int) - intOf v).toNat)
      case atStart => exact ⟨0, s, Nat.zero_le _, by simp, HI, ⟨Below.refl _ _⟩, ⟨by simpa using H2.out⟩⟩
      case round =>
       obtain ⟨m, s1, hm, rfl, HI2, HB2, HH⟩ := hrel
       obtain ⟨v2, ho2, hS2⟩ := HI2.out.out
       have hs0 := blk_cell ho2 0
       have hs2 := blk_cell ho2 2
       have hs3 := blk_cell ho2 3
       have hs4 := blk_cell ho2 4
       have hs5 := blk_cell ho2 5
       have hf5 := blk_frozen ho2 5
       simp only [List.getElem?_toArray, List.getElem?_cons_zero, List.getElem?_cons_succ] at hs0 hs2 hs3 hs4 hs5
       clear ho2 hS2
       by_cases hlt : m < M
       ·obtain ⟨q, hmq⟩ : ∃ q, M - m = q + 1 := ⟨M - m - 1, by omega⟩
        have hmq2 : M - (m + 1) = q := by omega
        have h3 := HH.out
        rw [hmq] at h3
        have hMM := HMM.out
        have hn1 : 1 ≤ from_ + (m : Int) ∧ from_ + (m : Int) ≤ 59 := by omega
        have hb0 : decide (from_ + (m : Int) ≤ to_) = true := decide_eq_true (by omega)
        have hnn : from_ + (m : Int) + 1 = from_ + ((m + 1 : Nat) : Int) := by omega
        obtain ⟨n, hn⟩ : ∃ n, from_ + (m : Int) = n := ⟨_, rfl⟩
        rw [hn] at h3 hb0 hn1 hnn
        have HH3 := Aside0.mk h3
        have HMQ2 := Aside0.mk hmq2
        have HLTM := Aside0.mk hlt
        have HNN := Aside0.mk hnn
        have HN := Aside0.mk hn
        have HN1 := Aside0.mk hn1
        rw [hn]
        clear HH h3 hmq hmq2 hlt hm hn hnn hMM
        obtain ⟨t, ht⟩ : ∃ t : Int, (i : Int) + n + shift = t := ⟨_, rfl⟩
        have HTT := Aside0.mk ht
        clear ht
        go_upto_region 11 with (fail)
        rw [HTT.out]
        go_cut [124] (fun v124 wc => ∃ x : Bool, v124 = .bool x ∧ wc = wr ∧ Aside0 (x = true ↔ sePassed hole row used n t))
        case first =>
         by_cases c1 : used.testBit n.toNat = true
         ·have b1 : (((used : Int) / 2 ^ n.toNat).tmod 2 == 1) = true := by rw [se_bit_int, if_pos c1]; rfl
          have HPS := Aside0.mk (show sePassed hole row used n t from .inl c1)
          clear c1
          go_wp2
          go_meet
          case rel => exact ⟨true, rfl, by first | trivial | rfl, ⟨⟨fun _ => HPS.out, fun _ => rfl⟩⟩⟩
         have b1 : (((used : Int) / 2 ^ n.toNat).tmod 2 == 1) = false := by rw [se_bit_int, if_neg c1]; rfl
         have C1 := Aside0.mk c1
         clear c1
         by_cases c2 : (row.length : Int) ≤ t
         ·have b2 : decide ((row.length : Int) ≤ t) = true := decide_eq_true c2
          have HPS := Aside0.mk (show sePassed hole row used n t from .inr (.inl c2))
          clear c2
          go_wp2
          go_meet
          case rel => exact ⟨true, rfl, by first | trivial | rfl, ⟨⟨fun _ => HPS.out, fun _ => rfl⟩⟩⟩
         have b2 : decide ((row.length : Int) ≤ t) = false := decide_eq_false c2
         have C2 := Aside0.mk c2
         by_cases c4 : t = hole
         ·have b4 : (t == hole) = true := beq_iff_eq.mpr c4
          have HPS := Aside0.mk (show sePassed hole row used n t from .inr (.inr (.inl c4)))
          clear c2 c4
          go_wp2
          go_meet
          case rel => exact ⟨true, rfl, by first | trivial | rfl, ⟨⟨fun _ => HPS.out, fun _ => rfl⟩⟩⟩
         have b4 : (t == hole) = false := beq_eq_false_iff_ne.mpr c4
         have C4 := Aside0.mk c4
         have ht0 : 0 ≤ t := by have := HTT.out; omega
         have HT0 := Aside0.mk ht0
         have hcr := HI2.out.row.cell t.toNat (by omega)
         rw [Int.toNat_of_nonneg ht0] at hcr
         have p1 : (0 ≤ t) = True := eq_true ht0
         have q1 : (t < (row.length : Int)) = True := eq_true (by omega)
         clear c2 c4 ht0
         obtain ⟨u, hu1⟩ : ∃ u, rd row t = u := ⟨_, rfl⟩
         rw [hu1] at hcr
         have HU := Aside0.mk hu1
         clear hu1
         by_cases c3 : u = 0
         ·have b3 : (u != 0) = false := bne_eq_false_iff_eq.mpr c3
          have HPS := Aside0.mk (show ¬ sePassed hole row used n t from fun h => by
           rcases h with h | h | h | h
           ·exact C1.out h
           ·exact C2.out h
           ·exact C4.out h
           ·exact h (HU.out.trans c3))
          clear c3
          go_wp2
          go_meet
          case rel => exact ⟨false, rfl, by first | trivial | rfl, ⟨⟨fun h => by simp at h, fun h => absurd h HPS.out⟩⟩⟩
         ·have b3 : (u != 0) = true := bne_iff_ne.mpr c3
          have HPS := Aside0.mk (show sePassed hole row used n t from .inr (.inr (.inr (by rw [HU.out]; exact c3))))
          clear c3
          go_wp2
          go_meet
          case rel => exact ⟨true, rfl, by first | trivial | rfl, ⟨⟨fun _ => HPS.out, fun _ => rfl⟩⟩⟩
        case rest =>
         obtain ⟨x, rfl, hwc, HPX⟩ := hcut
         have hwc2 : wr = wc := hwc.symm
         subst hwc2
         clear hwc
         have HREL := Aside0.mk (show ∀ (x1 : SeSt) (w' : World), SeI base gS gr from_ to_ shift hole most row used x1 w' → Below base w w' → seLoop (seF from_ to_ shift hole most k) hole shift row used i q (n + 1) x1 = some s' → ∃ (m' : Nat) (s1 : SeSt), m' ≤ M ∧ Value.int .i64 (n + 1) = .int .i64 (from_ + (m' : Int)) ∧ Aside0 (SeI base gS gr from_ to_ shift hole most row used s1 w') ∧ Aside0 (Below base w w') ∧ Aside0 (seLoop (seF from_ to_ shift hole most k) hole shift row used i (M - m') (from_ + (m' : Int)) s1 = some s') from fun x1 w' h1 h2 h4 => ⟨m + 1, x1, HLTM.out, by rw [HNN.out], ⟨h1⟩, ⟨h2⟩, ⟨by rw [HMQ2.out, ← HNN.out]; exact h4⟩⟩)
         cases x with
         | true =>
          have h4 := (seLoop_pass (rec := seF from_ to_ shift hole most k) (s := s1) (q := q) HTT.out (HPX.out.1 rfl)).symm.trans HH3.out
          have HH4 := Aside0.mk h4
          clear h4
          go_wp2
          go_roundw
          case rel => exact HREL.out s1 wr HI2.out HB2.out HH4.out
          case measure => simp only [intOf]; have := HN.out; have := HLTM.out; omega
         | false =>
          have hnp : ¬ sePassed hole row used n t := fun h => by simpa using HPX.out.2 h
          have htl : t < (row.length : Int) := by
           rcases Int.lt_or_le t row.length with h | h
           ·exact h
           ·exact absurd (Or.inr (Or.inl h)) hnp
          have ht0 : 0 ≤ t := by have := HTT.out; omega
          have hrt : rd row t = 0 := Classical.byContradiction fun h => hnp (.inr (.inr (.inr h)))
          have hbit : used.testBit n.toNat = false := Bool.eq_false_iff.mpr fun h => hnp (.inl h)
          have h4 := (seLoop_put (rec := seF from_ to_ shift hole most k) (s := s1) (q := q) HTT.out hnp).symm.trans HH3.out
          obtain ⟨s2, hrec, h5⟩ := Option.bind_eq_some_iff.1 h4
          have HREC := Aside0.mk hrec
          have HH5 := Aside0.mk h5
          have HRT := Aside0.mk hrt
          have HBIT := Aside0.mk hbit
          have HTL := Aside0.mk htl
          have HT0 := Aside0.mk ht0
          have p1 : (0 ≤ t) = True := eq_true ht0
          have q1 : (t < (row.length : Int)) = True := eq_true htl
          have p2 : (0 ≤ (i : Int)) = True := eq_true (by omega)
          have q2 : ((i : Int) < (row.length : Int)) = True := eq_true (by have := HLI.out; omega)
          have HNT := Aside0.mk (show n.toNat < 60 by omega)
          clear hnp h4 hrec h5 hrt hbit htl ht0 hs0 hs2 hs3 hs4 hf5
          go_upto_region 12 with (fail)
          refine start_ (n := 10) (S := fun w' => w'.cell? ⟨gS, 5, none⟩ = some (.int .i64 (used : Int))) (ds := [9]) #[false, false, false, false, false, false, false, false, false, false] (by kernel_rfl) rfl rfl (show wr.drew.cell? ⟨gS, 5, none⟩ = _ from hs5) (fun hHeld => ?_)
          have HBD := Aside0.mk (below_drew1 (Below.refl base wr))
          have HID := Aside0.mk (HI2.out.same (show wr.drew.heap = wr.heap from rfl))
          obtain ⟨vd, hod, _⟩ := HID.out.out
          have hfd := blk_frozen hod 5
          clear hod
          generalize wr.drew = wd at HBD HID hfd hHeld ⊢
          refine pure_ (i := 0) (N := some 125) (v := ?_) (a' := ?_) #[true, false, false, false, false, false, false, false, false, false] rfl rfl (by kernel_rfl) (fun _ _ _ h => h) (Or.inl ⟨by rfl, ?_⟩) ?_ ?_
          rotate_left
          ·intro w'
           go_simp
           with_reducible rfl
          rotate_left
          ·simp only [Act.put, List.setIfInBounds_toArray, List.set_cons_zero, List.set_cons_succ, i64_w, i32_w]
           rfl
          refine pure_ (i := 1) (N := some 126) (v := ?_) (a' := ?_) #[true, true, false, false, false, false, false, false, false, false] rfl rfl (by kernel_rfl) (fun _ _ _ h => h) (Or.inl ⟨by rfl, ?_⟩) ?_ ?_
          rotate_left
          ·intro w'
           go_simp
           with_reducible rfl
          rotate_left
          ·simp only [Act.put, List.setIfInBounds_toArray, List.set_cons_zero, List.set_cons_succ, i64_w, i32_w]
           rfl
          refine pure_ (i := 2) (N := some 127) (v := ?_) (a' := ?_) #[true, true, true, false, false, false, false, false, false, false] rfl rfl (by kernel_rfl) (fun _ _ _ h => h) (Or.inl ⟨by rfl, ?_⟩) ?_ ?_
          rotate_left
          ·intro w'
           go_simp
           with_reducible rfl
          rotate_left
          ·simp only [Act.put, List.setIfInBounds_toArray, List.set_cons_zero, List.set_cons_succ, i64_w, i32_w]
           rfl
          refine take_ (i := 3) (N := some 128) (v := ?_) (a' := ?_) #[true, true, true, true, false, false, false, false, false, false] rfl rfl (by kernel_rfl) (fun _ _ _ h => h) (Or.inl ⟨by rfl, ?_⟩) hHeld ?_ ?_
          rotate_left
          ·rintro w' s0
           go_simp
           with_reducible rfl
          rotate_left
          ·simp only [Act.put, List.setIfInBounds_toArray, List.set_cons_zero, List.set_cons_succ, i64_w, i32_w]
           rfl
          refine pure_ (i := 4) (N := some 129) (v := ?_) (a' := ?_) #[true, true, true, true, true, false, false, false, false, false] rfl rfl (by kernel_rfl) (fun _ _ _ h => h) (Or.inl ⟨by rfl, ?_⟩) ?_ ?_
          rotate_left
          ·intro w'
           go_simp
           with_reducible rfl
          rotate_left
          ·simp only [Act.put, List.setIfInBounds_toArray, List.set_cons_zero, List.set_cons_succ, i64_w, i32_w]
           rfl
          refine pure_ (i := 5) (N := some 130) (v := ?_) (a' := ?_) #[true, true, true, true, true, true, false, false, false, false] rfl rfl (by kernel_rfl) (fun _ _ _ h => h) (Or.inl ⟨by rfl, ?_⟩) ?_ ?_
          rotate_left
          ·intro w'
           go_simp
           with_reducible rfl
          rotate_left
          ·simp only [Act.put, List.setIfInBounds_toArray, List.set_cons_zero, List.set_cons_succ, i64_w, i32_w]
           rfl
          refine pure_ (i := 6) (N := some 131) (v := ?_) (a' := ?_) #[true, true, true, true, true, true, true, false, false, false] rfl rfl (by kernel_rfl) (fun _ _ _ h => h) (Or.inl ⟨by rfl, ?_⟩) ?_ ?_
          rotate_left
          ·intro w'
           go_simp
           with_reducible rfl
          rotate_left
          ·simp only [Act.put, List.setIfInBounds_toArray, List.set_cons_zero, List.set_cons_succ, i64_w, i32_w]
           rfl
          refine pure_ (i := 7) (N := some 132) (v := ?_) (a' := ?_) #[true, true, true, true, true, true, true, true, false, false] rfl rfl (by kernel_rfl) (fun _ _ _ h => h) (Or.inl ⟨by rfl, ?_⟩) ?_ ?_
          rotate_left
          ·intro w'
           go_simp
           with_reducible rfl
          rotate_left
          ·simp only [Act.put, List.setIfInBounds_toArray, List.set_cons_zero, List.set_cons_succ, i64_w, i32_w]
           rfl
          refine pure_ (i := 8) (N := some 133) (v := ?_) (a' := ?_) #[true, true, true, true, true, true, true, true, true, false] rfl rfl (by kernel_rfl) (fun _ _ _ h => h) (Or.inl ⟨by rfl, ?_⟩) ?_ ?_
          rotate_left
          ·intro w'
           go_simp
           with_reducible rfl
          rotate_left
          ·simp only [Act.put, List.setIfInBounds_toArray, List.set_cons_zero, List.set_cons_succ, i64_w, i32_w]
           rfl
          rw [se_or_bit HUS.out HNT.out]
          have hcd := hHeld
          refine last_ (i := 9) (N := none) #[true, true, true, true, true, true, true, true, true, true] rfl rfl (by kernel_rfl) (by decide) (fun K hK => ?_)
          refine skip_ (w1 := wd.setCell ⟨gS, 5, none⟩ (.int .i64 ((used ||| 2 ^ n.toNat : Nat) : Int))) (by rfl) rfl ?_ ?_
          ·first | (go_simp; done) | (go_simp; rfl)
          refine hK.out _ _ ?_
          clear hK K
          refine done_ (by kernel_rfl) ?_
          have HI3 := Aside0.mk (HID.out.putUsed HNE.out (used ||| 2 ^ n.toNat) (w' := wd.setCell ⟨gS, 5, none⟩ (.int .i64 ((used ||| 2 ^ n.toNat : Nat) : Int))) rfl)
          have HB3 := Aside0.mk (HBD.out.setCell (show base ≤ (⟨gS, 5, none⟩ : Addr).block from HBS.out) (.int .i64 ((used ||| 2 ^ n.toNat : Nat) : Int)))
          clear hHeld hcd hfd hs5 HID HBD
          generalize wd.setCell ⟨gS, 5, none⟩ (.int .i64 ((used ||| 2 ^ n.toNat : Nat) : Int)) = w3 at HI3 HB3 ⊢
          have hcell : ∀ (w9 : World) (row9 : List Int) (u9 : Nat) (s9 : SeSt), row9.length = row.length → SeI base gS gr from_ to_ shift hole most row9 u9 s9 w9 → w9.cell? ⟨gS, 0, none⟩ = some (.slice (some ⟨gr, 0, none⟩) row.length row.length) := fun w9 row9 u9 s9 hl h9 => by
           obtain ⟨v9, ho9, _⟩ := h9.out
           have := blk_cell ho9 0
           rw [hl] at this
           exact this
          have HCELL := Aside0.mk hcell
          clear hcell
          have hs0 := HCELL.out w3 row _ s1 rfl HI3.out
          have hcx := HI3.out.row.cell i HLI.out
          have hfx := blk_frozen HI3.out.row i
          go_upto_region 18 with (first | ((with_reducible refine gate_store (t := 3) (p := 140) rfl ?_); refine store_event (t := 3) (p := 140) (v := ?vo140) (w1 := (w3.setCell ⟨gr, i, none⟩ (.int .i64 n))) ?hg ?ho ?hn ?hr ?_; (case ho => rfl); (case hg => rfl); (case hn => rfl); (case hr => first | (go_simp; done) | (go_simp; rfl)); intro w4 hw_; have HI4 := Aside0.mk (HI3.out.putRow HNE.out i n hw_); have HBw4 := Aside0.mk (show Below base w3 w4 by rw [hw_]; exact (Below.refl base w3).setCell (show base ≤ (⟨gr, i, none⟩ : Addr).block from HBR.out) _); clear hw_; clear hs0 hcx hfx; have hs0 := HCELL.out w4 _ _ s1 (List.length_set ..) HI4.out; have hcx := HI4.out.row.cellI t HT0.out (by rw [List.length_set]; exact HTL.out); have hfx := blk_frozen HI4.out.row t.toNat) | ((with_reducible refine gate_store (t := 3) (p := 147) rfl ?_); refine store_event (t := 3) (p := 147) (v := ?vo147) (w1 := (w4.setCell ⟨gr, t.toNat, none⟩ (.int .i64 n))) ?hg ?ho ?hn ?hr ?_; (case ho => rfl); (case hg => rfl); (case hn => rfl); (case hr => first | (go_simp; done) | (go_simp; rfl)); intro w5 hw_; have HI5 := Aside0.mk (HI4.out.putRow HNE.out t.toNat n hw_); have HBw5 := Aside0.mk (show Below base w4 w5 by rw [hw_]; exact (Below.refl base w4).setCell (show base ≤ (⟨gr, t.toNat, none⟩ : Addr).block from HBR.out) _); clear hw_; clear hs0 hcx hfx) | ((with_reducible refine gate_callee (f := 254) rfl ?_); have HCALL := Aside0.mk (IH.out s1 s2 ((row.set i n).set t.toNat n) (used ||| 2 ^ n.toNat) w5 (by have h1 := HB0.out; have h2 := HB2.out.size; have h3 := HB3.out.size; have h4 := HBw4.out.size; have h5 := HBw5.out.size; omega) (by rw [List.length_set, List.length_set]; exact HR0.out) (by rw [List.length_set, List.length_set]; exact HR1.out) (Nat.or_lt_two_pow HUS.out (Nat.pow_lt_pow_right (by decide) HNT.out)) HI5.out HREC.out); refine goesL_ (some 149) rfl rfl Try.func254 (by kernel_rfl) rfl #[.pointer (some ⟨gS, 0, none⟩)] rfl (by (try simp only [List.map_toArray, List.map_cons, List.map_nil]); first | done | rfl) ?_; refine HCALL.out.mono ?_; rintro e w6 ⟨rfl, hI6, hB6⟩; refine ⟨_, rfl, ?_⟩; have HI6 := Aside0.mk hI6; have HB6 := Aside0.mk hB6; clear hI6 hB6 HCALL; have hs0 := HCELL.out w6 _ _ s2 (by rw [List.length_set, List.length_set]) HI6.out; have hcx := HI6.out.row.cell i (by rw [List.length_set, List.length_set]; exact HLI.out); have hfx := blk_frozen HI6.out.row i) | ((with_reducible refine gate_store (t := 3) (p := 155) rfl ?_); refine store_event (t := 3) (p := 155) (v := ?vo155) (w1 := (w6.setCell ⟨gr, i, none⟩ (.int .i64 0))) ?hg ?ho ?hn ?hr ?_; (case ho => rfl); (case hg => rfl); (case hn => rfl); (case hr => first | (go_simp; done) | (go_simp; rfl)); intro w7 hw_; have HI7 := Aside0.mk (HI6.out.putRow HNE.out i 0 hw_); have HBw7 := Aside0.mk (show Below base w6 w7 by rw [hw_]; exact (Below.refl base w6).setCell (show base ≤ (⟨gr, i, none⟩ : Addr).block from HBR.out) _); clear hw_; clear hs0 hcx hfx; have hs0 := HCELL.out w7 _ _ s2 (by rw [List.length_set, List.length_set, List.length_set]) HI7.out; have hcx := HI7.out.row.cellI t HT0.out (by rw [List.length_set, List.length_set, List.length_set]; exact HTL.out); have hfx := blk_frozen HI7.out.row t.toNat) | ((with_reducible refine gate_store (t := 3) (p := 161) rfl ?_); refine store_event (t := 3) (p := 161) (v := ?vo161) (w1 := (w7.setCell ⟨gr, t.toNat, none⟩ (.int .i64 0))) ?hg ?ho ?hn ?hr ?_; (case ho => rfl); (case hg => rfl); (case hn => rfl); (case hr => first | (go_simp; done) | (go_simp; rfl)); intro w8 hw_; have HI8 := Aside0.mk (HI7.out.putRow HNE.out t.toNat 0 hw_); have HBw8 := Aside0.mk (show Below base w7 w8 by rw [hw_]; exact (Below.refl base w7).setCell (show base ≤ (⟨gr, t.toNat, none⟩ : Addr).block from HBR.out) _); clear hw_; clear hs0 hcx hfx))
          have HI8' := Aside0.mk (HI8.out.cast (se_set_back HZ0.out (show rd row ((t.toNat : Nat) : Int) = 0 by rw [Int.toNat_of_nonneg HT0.out]; exact HRT.out)))
          obtain ⟨v8, ho8, _⟩ := HI8'.out.out
          have hs5 := blk_cell ho8 5
          simp only [List.getElem?_toArray, List.getElem?_cons_zero, List.getElem?_cons_succ] at hs5
          clear ho8
          refine start_ (n := 10) (S := fun w' => w'.cell? ⟨gS, 5, none⟩ = some (.int .i64 ((used ||| 2 ^ n.toNat : Nat) : Int))) (ds := [9]) #[false, false, false, false, false, false, false, false, false, false] (by kernel_rfl) rfl rfl (show w8.drew.cell? ⟨gS, 5, none⟩ = _ from hs5) (fun hHeld => ?_)
          have HBD := Aside0.mk (below_drew1 (Below.refl base w8))
          have HID := Aside0.mk (HI8'.out.same (show w8.drew.heap = w8.heap from rfl))
          obtain ⟨vd, hod, _⟩ := HID.out.out
          have hfd := blk_frozen hod 5
          clear hod
          generalize w8.drew = wd at HBD HID hfd hHeld ⊢
          refine pure_ (i := 0) (N := some 162) (v := ?_) (a' := ?_) #[true, false, false, false, false, false, false, false, false, false] rfl rfl (by kernel_rfl) (fun _ _ _ h => h) (Or.inl ⟨by rfl, ?_⟩) ?_ ?_
          rotate_left
          ·intro w'
           go_simp
           with_reducible rfl
          rotate_left
          ·simp only [Act.put, List.setIfInBounds_toArray, List.set_cons_zero, List.set_cons_succ, i64_w, i32_w]
           rfl
          refine pure_ (i := 1) (N := some 163) (v := ?_) (a' := ?_) #[true, true, false, false, false, false, false, false, false, false] rfl rfl (by kernel_rfl) (fun _ _ _ h => h) (Or.inl ⟨by rfl, ?_⟩) ?_ ?_
          rotate_left
          ·intro w'
           go_simp
           with_reducible rfl
          rotate_left
          ·simp only [Act.put, List.setIfInBounds_toArray, List.set_cons_zero, List.set_cons_succ, i64_w, i32_w]
           rfl
          refine pure_ (i := 2) (N := some 164) (v := ?_) (a' := ?_) #[true, true, true, false, false, false, false, false, false, false] rfl rfl (by kernel_rfl) (fun _ _ _ h => h) (Or.inl ⟨by rfl, ?_⟩) ?_ ?_
          rotate_left
          ·intro w'
           go_simp
           with_reducible rfl
          rotate_left
          ·simp only [Act.put, List.setIfInBounds_toArray, List.set_cons_zero, List.set_cons_succ, i64_w, i32_w]
           rfl
          refine take_ (i := 3) (N := some 165) (v := ?_) (a' := ?_) #[true, true, true, true, false, false, false, false, false, false] rfl rfl (by kernel_rfl) (fun _ _ _ h => h) (Or.inl ⟨by rfl, ?_⟩) hHeld ?_ ?_
          rotate_left
          ·rintro w' s0
           go_simp
           with_reducible rfl
          rotate_left
          ·simp only [Act.put, List.setIfInBounds_toArray, List.set_cons_zero, List.set_cons_succ, i64_w, i32_w]
           rfl
          refine pure_ (i := 4) (N := some 166) (v := ?_) (a' := ?_) #[true, true, true, true, true, false, false, false, false, false] rfl rfl (by kernel_rfl) (fun _ _ _ h => h) (Or.inl ⟨by rfl, ?_⟩) ?_ ?_
          rotate_left
          ·intro w'
           go_simp
           with_reducible rfl
          rotate_left
          ·simp only [Act.put, List.setIfInBounds_toArray, List.set_cons_zero, List.set_cons_succ, i64_w, i32_w]
           rfl
          refine pure_ (i := 5) (N := some 167) (v := ?_) (a' := ?_) #[true, true, true, true, true, true, false, false, false, false] rfl rfl (by kernel_rfl) (fun _ _ _ h => h) (Or.inl ⟨by rfl, ?_⟩) ?_ ?_
          rotate_left
          ·intro w'
           go_simp
           with_reducible rfl
          rotate_left
          ·simp only [Act.put, List.setIfInBounds_toArray, List.set_cons_zero, List.set_cons_succ, i64_w, i32_w]
           rfl
          refine pure_ (i := 6) (N := some 168) (v := ?_) (a' := ?_) #[true, true, true, true, true, true, true, false, false, false] rfl rfl (by kernel_rfl) (fun _ _ _ h => h) (Or.inl ⟨by rfl, ?_⟩) ?_ ?_
          rotate_left
          ·intro w'
           go_simp
           with_reducible rfl
          rotate_left
          ·simp only [Act.put, List.setIfInBounds_toArray, List.set_cons_zero, List.set_cons_succ, i64_w, i32_w]
           rfl
          refine pure_ (i := 7) (N := some 169) (v := ?_) (a' := ?_) #[true, true, true, true, true, true, true, true, false, false] rfl rfl (by kernel_rfl) (fun _ _ _ h => h) (Or.inl ⟨by rfl, ?_⟩) ?_ ?_
          rotate_left
          ·intro w'
           go_simp
           with_reducible rfl
          rotate_left
          ·simp only [Act.put, List.setIfInBounds_toArray, List.set_cons_zero, List.set_cons_succ, i64_w, i32_w]
           rfl
          refine pure_ (i := 8) (N := some 170) (v := ?_) (a' := ?_) #[true, true, true, true, true, true, true, true, true, false] rfl rfl (by kernel_rfl) (fun _ _ _ h => h) (Or.inl ⟨by rfl, ?_⟩) ?_ ?_
          rotate_left
          ·intro w'
           go_simp
           with_reducible rfl
          rotate_left
          ·simp only [Act.put, List.setIfInBounds_toArray, List.set_cons_zero, List.set_cons_succ, i64_w, i32_w]
           rfl
          rw [andNot_bit HUS.out HNT.out HBIT.out]
          have hcd := hHeld
          refine last_ (i := 9) (N := none) #[true, true, true, true, true, true, true, true, true, true] rfl rfl (by kernel_rfl) (by decide) (fun K hK => ?_)
          refine skip_ (w1 := wd.setCell ⟨gS, 5, none⟩ (.int .i64 (used : Int))) (by rfl) rfl ?_ ?_
          ·first | (go_simp; done) | (go_simp; rfl)
          refine hK.out _ _ ?_
          clear hK K
          refine done_ (by kernel_rfl) ?_
          have HI9 := Aside0.mk (HID.out.putUsed HNE.out used (w' := wd.setCell ⟨gS, 5, none⟩ (.int .i64 (used : Int))) rfl)
          have HB9 := Aside0.mk (HBD.out.setCell (show base ≤ (⟨gS, 5, none⟩ : Addr).block from HBS.out) (.int .i64 (used : Int)))
          clear hHeld hcd hfd hs5 HID HBD
          generalize wd.setCell ⟨gS, 5, none⟩ (.int .i64 (used : Int)) = w9 at HI9 HB9 ⊢
          try go_wp2
          go_roundw
          case rel => exact HREL.out s2 w9 HI9.out (HB2.out.trans (HB3.out.trans (HBw4.out.trans (HBw5.out.trans (HB6.out.trans (HBw7.out.trans (HBw8.out.trans HB9.out))))))) HH5.out
          case measure => simp only [intOf]; have := HN.out; have := HLTM.out; omega
       ·obtain rfl : m = M := by omega
        have hx : s1 = s' := by
         have := HH.out
         rw [Nat.sub_self] at this
         exact Option.some.inj this
        subst hx
        have hMM := HMM.out
        have hb0 : decide (from_ + (m : Int) ≤ to_) = false := decide_eq_false (by omega)
        clear HH hlt hm hMM
        go_wp2
        first | go_end0 | ((try simp only [Exit.inBlock, Exit.then]); refine bodyPost_ret (results_none rfl _ _ _) rfl ?_)
        exact ⟨rfl, HI2.out, HB2.out⟩
    ·have bz : (y != 0) = true := bne_iff_ne.mpr hz
     have HNZ := Aside0.mk hz
     clear hz
     go_wp2
     go_roundw
     case rel => exact ⟨i + 1, HLI.out, by go_num, by first | trivial | rfl, ⟨fun j hj => by
      by_cases e : j = i
      ·rw [e, HY.out]; exact .inl HNZ.out
      ·exact HZ.out j (by omega)⟩⟩
     case measure => simp [intOf]; have := HLI.out; omega
   ·obtain rfl : i = row.length := by omega
    have be : ((row.length : Int) == (row.length : Int)) = true := beq_self_eq_true _
    have hza := seAt_is (Nat.le_refl _) HZ.out (fun h => by omega)
    have hx := H.out
    rw [seF, if_pos hza] at hx
    split at hx
    case isFalse => cases hx
    rename_i hbd
    have hx := Option.some.inj hx
    generalize hxs : (if (s.2.length : Int) < most then s.2 ++ [row] else s.2) = xs2 at hx
    have HXS := Aside0.mk hxs
    subst hx
    clear hxs
    have HBD := Aside0.mk hbd
    have hw7 := wrap_in (n := (s.1 : Int) + 1) (by omega) (by omega)
    have hf7 := (by obtain ⟨v0, ho0, _⟩ := HI.out.out; exact blk_frozen ho0 7 : w.frozen? ⟨gS, 7, none⟩ = false)
    clear H hza hlt hbd
    go_upto_region 5 with (first | ((with_reducible refine gate_store (t := 3) (p := 45) rfl ?_); refine store_event (t := 3) (p := 45) (v := ?vo45) (w1 := (w.setCell ⟨gS, 7, none⟩ (.int .i64 (wrap64 ((s.1 : Int) + 1))))) ?hg ?ho ?hn ?hr ?_; (case ho => rfl); (case hg => rfl); (case hn => rfl); (case hr => first | (go_simp; done) | (go_simp; rfl)); intro w1 hw_; rw [hw7] at hw_; have HI1 := Aside0.mk (HI.out.putCount HNE.out hw_); have HB1 := Aside0.mk (show Below base w w1 by rw [hw_]; exact (Below.refl base w).setCell (show base ≤ (⟨gS, 7, none⟩ : Addr).block from HBS.out) _); clear hw_))
    clear hs0 hs1 hs4 hs6 hs7 hs8 hf7 hw7
    obtain ⟨v1, ho1, hS1⟩ := HI1.out.out
    obtain ⟨A1, c1, e1⟩ := Kd.S_slice hS1
    subst e1
    have hs6 := blk_cell ho1 6
    have hs8 := blk_cell ho1 8
    simp only [List.getElem?_toArray, List.getElem?_cons_zero, List.getElem?_cons_succ] at hs6 hs8
    clear ho1 hS1
    obtain ⟨lt, hlt⟩ : ∃ lt, decide ((s.2.length : Int) < most) = lt := ⟨_, rfl⟩
    go_cut [55] (fun v55 wc => v55 = .bool lt ∧ wc.heap = w1.heap ∧ Aside0 (Below base w1 wc))
    case first =>
     go_quiet (fail)
     try go_wp2
     go_meet
     case rel => exact ⟨rfl, rfl, ⟨pw_below_drewN (Below.refl _ _) _⟩⟩
    case rest =>
     obtain ⟨rfl, hwc, HBC⟩ := hcut
     have HIC := Aside0.mk (HI1.out.same hwc)
     clear hs6 hs8 hwc
     cases lt with
     | false =>
      have hnl : most ≤ (s.2.length : Int) := by have := of_decide_eq_false hlt; omega
      have HNL := Aside0.mk hnl
      clear hnl hlt
      go_wp2
      first | go_end0 | ((try simp only [Exit.inBlock, Exit.then]); refine bodyPost_ret (results_none rfl _ _ _) rfl ?_)
      exact ⟨rfl, by have e := HXS.out; rw [if_neg (Int.not_lt.mpr HNL.out)] at e; rw [← e]; exact HIC.out, HB1.out.trans HBC.out⟩
     | true =>
      have hnl : (s.2.length : Int) < most := of_decide_eq_true hlt
      have HNL := Aside0.mk hnl
      clear hnl hlt
      go_upto_region 6 with (fail)
      obtain ⟨v2, ho2, hS2⟩ := HIC.out.out
      obtain ⟨A2, c2, e2⟩ := Kd.S_slice hS2
      subst e2
      have HO2 := Aside0.mk ho2
      have HS2 := Aside0.mk hS2
      have HR2 := Aside0.mk HIC.out.row
      clear ho2 hS2
      refine start_ (n := 15) (S := fun w' => w'.cell? ⟨gS, 8, none⟩ = some (.slice A2 s.2.length c2) ∧ w'.cell? ⟨gS, 0, none⟩ = some (.slice (some ⟨gr, 0, none⟩) row.length row.length)) (ds := [14]) #[false, false, false, false, false, false, false, false, false, false, false, false, false, false, false] (by kernel_rfl) rfl rfl ⟨(blk_cell HO2.out 8).trans rfl, (blk_cell HO2.out 0).trans rfl⟩ (fun hHeld => ?_)
      have HO3 := Aside0.mk (blk_drew HO2.out)
      have HS3 := Aside0.mk (Kd.S_drew HS2.out)
      have HR3 := Aside0.mk (show IB wc.drew gr row from HR2.out)
      have HB3 := Aside0.mk (below_drew1 (Below.refl base wc))
      generalize wc.drew = w2 at HO3 HS3 HR3 HB3 hHeld ⊢
      refine pure_ (i := 0) (N := some 56) (v := ?_) (a' := ?_) #[true, false, false, false, false, false, false, false, false, false, false, false, false, false, false] rfl rfl (by kernel_rfl) (fun _ _ _ h => h) (Or.inl ⟨by rfl, ?_⟩) ?_ ?_
      rotate_left
      ·intro w'
       go_simp
       with_reducible rfl
      rotate_left
      ·simp only [Act.put, List.setIfInBounds_toArray, List.set_cons_zero, List.set_cons_succ, i64_w, i32_w]
       rfl
      refine pure_ (i := 1) (N := some 57) (v := ?_) (a' := ?_) #[true, true, false, false, false, false, false, false, false, false, false, false, false, false, false] rfl rfl (by kernel_rfl) (fun _ _ _ h => h) (Or.inl ⟨by rfl, ?_⟩) ?_ ?_
      rotate_left
      ·intro w'
       go_simp
       with_reducible rfl
      rotate_left
      ·simp only [Act.put, List.setIfInBounds_toArray, List.set_cons_zero, List.set_cons_succ, i64_w, i32_w]
       rfl
      refine pure_ (i := 2) (N := some 58) (v := ?_) (a' := ?_) #[true, true, true, false, false, false, false, false, false, false, false, false, false, false, false] rfl rfl (by kernel_rfl) (fun _ _ _ h => h) (Or.inl ⟨by rfl, ?_⟩) ?_ ?_
      rotate_left
      ·intro w'
       go_simp
       with_reducible rfl
      rotate_left
      ·simp only [Act.put, List.setIfInBounds_toArray, List.set_cons_zero, List.set_cons_succ, i64_w, i32_w]
       rfl
      refine pure_ (i := 3) (N := some 59) (v := ?_) (a' := ?_) #[true, true, true, true, false, false, false, false, false, false, false, false, false, false, false] rfl rfl (by kernel_rfl) (fun _ _ _ h => h) (Or.inl ⟨by rfl, ?_⟩) ?_ ?_
      rotate_left
      ·intro w'
       go_simp
       with_reducible rfl
      rotate_left
      ·simp only [Act.put, List.setIfInBounds_toArray, List.set_cons_zero, List.set_cons_succ, i64_w, i32_w]
       rfl
      refine take_ (i := 4) (N := some 60) (v := ?_) (a' := ?_) #[true, true, true, true, true, false, false, false, false, false, false, false, false, false, false] rfl rfl (by kernel_rfl) (fun _ _ _ h => h) (Or.inl ⟨by rfl, ?_⟩) hHeld ?_ ?_
      rotate_left
      ·rintro w' ⟨s0, s1⟩
       go_simp
       with_reducible rfl
      rotate_left
      ·simp only [Act.put, List.setIfInBounds_toArray, List.set_cons_zero, List.set_cons_succ, i64_w, i32_w]
       rfl
      refine pure_ (i := 5) (N := some 61) (v := ?_) (a' := ?_) #[true, true, true, true, true, true, false, false, false, false, false, false, false, false, false] rfl rfl (by kernel_rfl) (fun _ _ _ h => h) (Or.inl ⟨by rfl, ?_⟩) ?_ ?_
      rotate_left
      ·intro w'
       go_simp
       with_reducible rfl
      rotate_left
      ·simp only [Act.put, List.setIfInBounds_toArray, List.set_cons_zero, List.set_cons_succ, i64_w, i32_w]
       rfl
      refine pure_ (i := 6) (N := some 62) (v := ?_) (a' := ?_) #[true, true, true, true, true, true, true, false, false, false, false, false, false, false, false] rfl rfl (by kernel_rfl) (fun _ _ _ h => h) (Or.inl ⟨by rfl, ?_⟩) ?_ ?_
      rotate_left
      ·intro w'
       go_simp
       with_reducible rfl
      rotate_left
      ·simp only [Act.put, List.setIfInBounds_toArray, List.set_cons_zero, List.set_cons_succ, i64_w, i32_w]
       rfl
      refine pure_ (i := 7) (N := some 63) (v := ?_) (a' := ?_) #[true, true, true, true, true, true, true, true, false, false, false, false, false, false, false] rfl rfl (by kernel_rfl) (fun _ _ _ h => h) (Or.inl ⟨by rfl, ?_⟩) ?_ ?_
      rotate_left
      ·intro w'
       go_simp
       with_reducible rfl
      rotate_left
      ·simp only [Act.put, List.setIfInBounds_toArray, List.set_cons_zero, List.set_cons_succ, i64_w, i32_w]
       rfl
      refine take_ (i := 8) (N := some 64) (v := ?_) (a' := ?_) #[true, true, true, true, true, true, true, true, true, false, false, false, false, false, false] rfl rfl (by kernel_rfl) (fun _ _ _ h => h) (Or.inl ⟨by rfl, ?_⟩) hHeld ?_ ?_
      rotate_left
      ·rintro w' ⟨s0, s1⟩
       go_simp
       with_reducible rfl
      rotate_left
      ·simp only [Act.put, List.setIfInBounds_toArray, List.set_cons_zero, List.set_cons_succ, i64_w, i32_w]
       rfl
      refine one_ (i := 9) (N := some 65) #[true, true, true, true, true, true, true, true, true, true, false, false, false, false, false] rfl rfl (by kernel_rfl) (by decide) (fun K hK => ?_)
      refine goes_ Try.func194 (by kernel_rfl) rfl #[.slice (some ⟨gr, 0, none⟩) row.length row.length] (by rfl) rfl rfl (by (try simp only [List.map_toArray, List.map_cons, List.map_nil]); first | done | rfl) ?_
      refine (spec_l1Own.calls (some ⟨gr, 0, none⟩) row.length row row w2 (HR3.out.C (by have := HR1.out; omega)) (Nat.le_refl _) HOWN.out).mono ?_
      rintro e w3 ⟨v3, rfl, hv3, hb3⟩
      refine ⟨_, rfl, ?_⟩
      have HV3 := Aside0.mk hv3
      have HB4 := Aside0.mk hb3
      have HO4 := Aside0.mk (blk_below HO3.out hb3)
      have HR4 := Aside0.mk (show IB w3 gr row from blk_below HR3.out hb3)
      have HS4 := Aside0.mk (Kd.S_below (Kd.S_bound HS3.out) hb3)
      clear hv3 hb3
      refine hK.out _ _ ⟨(blk_cell HO4.out 8).trans rfl, (blk_cell HO4.out 0).trans rfl⟩ (fun hHeld => ?_)
      clear hK K
      refine norm_ (a' := ?_) ?_ ?_
      rotate_left
      ·show Act.put _ (some 65) _ = _
       simp only [Act.put, List.setIfInBounds_toArray, List.set_cons_zero, List.set_cons_succ, i64_w, i32_w]
       rfl
      obtain ⟨A4, c4, e4⟩ := Kd.R_slice HV3.out
      subst e4
      refine one_ (i := 10) (N := some 66) #[true, true, true, true, true, true, true, true, true, true, true, false, false, false, false] rfl rfl (by kernel_rfl) (by decide) (fun K hK => ?_)
      refine value_ (v := .slice (some ⟨w3.heap.size, 0, none⟩) 1 1) (w1 := w3.alloc (.cells #[.slice A4 row.length c4] 31)) (by rfl) rfl ?_ ?_
      ·first | (go_simp; done) | (go_simp; rfl)
      refine hK.out _ _ ⟨(blk_cell (blk_alloc HO4.out _) 8).trans rfl, (blk_cell (blk_alloc HO4.out _) 0).trans rfl⟩ (fun hHeld => ?_)
      clear hK K
      refine norm_ (a' := ?_) ?_ ?_
      rotate_left
      ·show Act.put _ (some 66) _ = _
       simp only [Act.put, List.setIfInBounds_toArray, List.set_cons_zero, List.set_cons_succ, i64_w, i32_w]
       rfl
      refine one_ (i := 11) (N := some 67) #[true, true, true, true, true, true, true, true, true, true, true, true, false, false, false] rfl rfl (by kernel_rfl) (by decide) (fun K hK => ?_)
      have hsz := HB4.out.size
      have hgS := blk_lt HO3.out
      have hgr := blk_lt HR3.out
      have hb2 : base ≤ w2.heap.size := by have := HBS.out; omega
      refine Kd.S_append_step (Kd.slice 3 (Kd.int .i64)) (w0 := wc) (W := w3) base (by rfl) (.tmp 60) (.tmp 66) 28 31 (.slice none 0 0) 24 rfl Try.underlying28 info31 rfl (by decide) (by omega) (.slice A2 s.2.length c2) s.2 row [.slice A4 row.length c4] (fun k => k ≠ gS ∧ k ≠ gr) (fun k_ => some k_ = (.slice A4 row.length c4 : Value).ownBlock) rfl rfl ?aP ?aK ?aF ?aO ?aB ?aS ?aL ?_
      case aP => exact Kd.M_row (Kd.R_mono (Kd.R_tight rfl (Kd.R_lower HV3.out hb2)) (fun _ h_ => h_))
      case aK =>
       intro k hk
       have h1 := Kd.R_base HV3.out k hk.symm
       exact ⟨⟨by omega, by omega⟩, fun e => by have := Kd.S_lt HS3.out k e.symm; omega⟩
      case aF => exact fun k hk => ⟨by omega, by omega⟩
      case aO =>
       refine Kd.S_mono HS4.out (fun k hk => ⟨hk.1, fun e => ?_⟩)
       have h1 := Kd.R_base HV3.out k e.symm
       have := hk.2.2.1
       omega
      case aB => exact HB3.out.trans (HB4.out.mono hb2)
      case aS => omega
      case aL => have := HBD.out.2; omega
      intro v4 w4 hS4 hB4 hg4 hat4
      have HO5 := Aside0.mk (blk_grown HO4.out hg4 (Kd.S_ne HS4.out HO4.out (by decide)))
      have HR5 := Aside0.mk (show IB w4 gr row from blk_grown HR4.out hg4 (Kd.S_ne HS4.out HR4.out (by decide)))
      have HB5 := Aside0.mk hB4
      have HS5 := Aside0.mk hS4
      clear hsz hb2 hgS hgr hS4 hB4 hg4 hat4
      obtain ⟨A5, c5, e5⟩ := Kd.S_slice HS5.out
      subst e5
      refine hK.out _ _ ⟨(blk_cell HO5.out 8).trans rfl, (blk_cell HO5.out 0).trans rfl⟩ (fun hHeld => ?_)
      clear hK K
      refine norm_ (a' := ?_) ?_ ?_
      rotate_left
      ·show Act.put _ (some 67) _ = _
       simp only [Act.put, List.setIfInBounds_toArray, List.set_cons_zero, List.set_cons_succ, i64_w, i32_w]
       rfl
      refine pure_ (i := 12) (N := some 68) (v := ?_) (a' := ?_) #[true, true, true, true, true, true, true, true, true, true, true, true, true, false, false] rfl rfl (by kernel_rfl) (fun _ _ _ h => h) (Or.inl ⟨by rfl, ?_⟩) ?_ ?_
      rotate_left
      ·intro w'
       go_simp
       with_reducible rfl
      rotate_left
      ·simp only [Act.put, List.setIfInBounds_toArray, List.set_cons_zero, List.set_cons_succ, i64_w, i32_w]
       rfl
      refine pure_ (i := 13) (N := some 69) (v := ?_) (a' := ?_) #[true, true, true, true, true, true, true, true, true, true, true, true, true, true, false] rfl rfl (by kernel_rfl) (fun _ _ _ h => h) (Or.inl ⟨by rfl, ?_⟩) ?_ ?_
      rotate_left
      ·intro w'
       go_simp
       with_reducible rfl
      rotate_left
      ·simp only [Act.put, List.setIfInBounds_toArray, List.set_cons_zero, List.set_cons_succ, i64_w, i32_w]
       rfl
      have hc8 := hHeld.1
      have hf8 := blk_frozen HO5.out 8
      refine last_ (i := 14) (N := none) #[true, true, true, true, true, true, true, true, true, true, true, true, true, true, true] rfl rfl (by kernel_rfl) (by decide) (fun K hK => ?_)
      refine skip_ (w1 := w4.setCell ⟨gS, 8, none⟩ (.slice A5 (s.2 ++ [row]).length c5)) (by rfl) rfl ?_ ?_
      ·first | (go_simp; done) | (go_simp; rfl)
      refine hK.out _ _ ?_
      clear hK K
      refine done_ (by kernel_rfl) ?_
      have HI6 := Aside0.mk (show SeI base gS gr from_ to_ shift hole most row used (s.1 + 1, s.2 ++ [row]) (w4.setCell ⟨gS, 8, none⟩ (.slice A5 (s.2 ++ [row]).length c5)) from ⟨⟨_, blk_put HO5.out 8 _ rfl, Kd.S_step HS5.out (fun k ho hl => Below.heap_setCell _ _ _ _ ho.1)⟩, (show IB _ gr row from (Below.heap_setCell _ _ _ _ HNE.out.symm).trans HR5.out)⟩)
      have HB6 := Aside0.mk (HB5.out.setCell (show base ≤ (⟨gS, 8, none⟩ : Addr).block from HBS.out) (.slice A5 (s.2 ++ [row]).length c5))
      clear hHeld hc8 hf8
      generalize w4.setCell ⟨gS, 8, none⟩ (.slice A5 (s.2 ++ [row]).length c5) = w5 at HI6 HB6 ⊢
      try go_wp2
      first | go_end0 | ((try simp only [Exit.inBlock, Exit.then]); refine bodyPost_ret (results_none rfl _ _ _) rfl ?_)
      exact ⟨rfl, by have e := HXS.out; rw [if_pos HNL.out] at e; rw [← e]; exact HI6.out, HB1.out.trans (HBC.out.trans HB6.out)⟩


end Go.Proofs.Ytaohgllnoomaeaa.Fn
namespace Go.Proofs.Ytaohgllnoomaeaa.Fn
open Go.RowKit Go.Proofs.YtaohgllnoomaeaaW.PrintWords Go.Proofs.YtaohgllnoomaeaaW.PrintLast Go.Proofs.YtaohgllnoomaeaaW.PrintMore
attribute [local go_sem] max2_int min2_int max_two min_two max_three min_three max_four min_four   -- for this text's walks alone
set_option linter.unusedVariables false
set_option linter.unusedSimpArgs false

/-! ### impl_pairs: function 175 (given) -/
/-- The places of a number in a list, the first one counted as i. -/
def placesFrom (n : Int) : Nat → List Int → List Int
 | _, [] => []
 | i, x :: l => if x = n then (i : Int) :: placesFrom n (i + 1) l else placesFrom n (i + 1) l
/-- The places of a number in a list. -/
def placesOf (l : List Int) (n : Int) : List Int := placesFrom n 0 l
/-- The places of a number; none of the hole. -/
def atOf (l : List Int) (k : Nat) : List Int := if k = 0 then [] else placesOf l k
/-- Each number stands twice or not at all. -/
def pairsOk (l : List Int) : Bool := (List.range 21).all fun k => (atOf l k).length == 0 || (atOf l k).length == 2
theorem placesFrom_snoc (n x : Int) : ∀ (l : List Int) (i : Nat), placesFrom n i (l ++ [x]) = placesFrom n i l ++ (if x = n then [((i + l.length : Nat) : Int)] else [])
 | [], i => by simp [placesFrom]
 | y :: l, i => by
  have ih := placesFrom_snoc n x l (i + 1)
  by_cases h : y = n <;> simp [placesFrom, h, ih] <;> (split <;> simp <;> omega)
theorem placesFrom_len (n : Int) : ∀ (l : List Int) (i : Nat), (placesFrom n i l).length ≤ l.length
 | [], i => by simp [placesFrom]
 | y :: l, i => by
  have ih := placesFrom_len n l (i + 1)
  unfold placesFrom
  split
  ·simp; omega
  ·simp; omega
theorem atOf_len (l : List Int) (k : Nat) : (atOf l k).length ≤ l.length := by
 unfold atOf
 split
 ·simp
 ·exact placesFrom_len _ _ _
theorem take_snoc (l : List Int) (k : Nat) (h : k < l.length) : l.take (k + 1) = l.take k ++ [rd l k] := by
 rw [rd_nat l k h, List.take_succ_eq_append_getElem h]
theorem atOf_step (l : List Int) (k n : Nat) (h : k < l.length) (hn : rd l k = n) (j : Nat) : atOf (l.take (k + 1)) j = if j = n ∧ 0 < n then atOf (l.take k) j ++ [(k : Int)] else atOf (l.take k) j := by
 rw [take_snoc l k h, hn]
 unfold atOf placesOf
 by_cases h0 : j = 0
 ·subst h0
  rw [if_pos rfl, if_pos rfl, if_neg (by omega)]
 ·rw [if_neg h0, if_neg h0, placesFrom_snoc]
  by_cases hj : j = n
  ·subst hj
   rw [if_pos rfl, if_pos ⟨rfl, by omega⟩]
   simp [List.length_take]
   omega
  ·rw [if_neg (by omega), if_neg (by omega)]
   simp
/-- The array's cells. -/
def arr21 (V : Nat → Value) : Array Value := ((List.range 21).map V).toArray
def updV {α : Type} (V : Nat → α) (n : Nat) (v : α) : Nat → α := fun k => if k = n then v else V k
theorem arr21_get (V : Nat → Value) (k : Nat) (h : k < 21) : (arr21 V)[k]? = some (V k) := by
 simp [arr21, h]
theorem arr21_size (V : Nat → Value) : (arr21 V).size = 21 := by simp [arr21]
theorem arr21_set (V : Nat → Value) (n : Nat) (v : Value) : (arr21 V).setIfInBounds n v = arr21 (updV V n v) := by
 apply Array.ext_getElem?
 intro i
 rw [Array.getElem?_setIfInBounds]
 by_cases h : n = i
 ·subst h
  by_cases hn : n < 21
  ·rw [if_pos rfl, if_pos (by rw [arr21_size]; exact hn), arr21_get _ _ hn]
   simp [updV]
  ·rw [if_pos rfl, if_neg (by rw [arr21_size]; exact hn)]
   simp [hn, arr21]
 ·rw [if_neg h]
  by_cases hi : i < 21
  ·rw [arr21_get _ _ hi, arr21_get _ _ hi]
   simp [updV, Ne.symm h]
  ·simp [arr21, hi]
theorem results_cell_tmp {P : Program} {fn : Func} {p q : Tmp} {ty : TypeId} (h : fn.results = #[.cell p ty, .tmp q]) (tmps : Array Value) (w : World) (g : Nat) (v : Value)
  (hp : tmps.getD p undef = .pointer (some ⟨g, 0, none⟩)) (hl : (loadVar ty ⟨g, 0, none⟩).run P w = .ok v w) :
  (results fn tmps).run P w = .ok (.tuple #[v, tmps.getD q undef]) w := by
 have hp' : tmps[p]?.getD undef = .pointer (some ⟨g, 0, none⟩) := by simpa using hp
 simp [results, h, hp', asAddr, hl, Sem.run_bind]
/-- The array of places at block g. -/
structure AtOk (B : Nat) (w : World) (g : Nat) (V : Nat → Value) (L : Nat → List Int) : Prop where
 blk : w.heap[g]? = some (.cells (arr21 V) 110 (0, 0))
 own : ∀ k, k < 21 → Kd.R (Kd.int .i64) 3 w B (fun _ => True) (V k) (L k)
 apart : ∀ j k, j < 21 → k < 21 → j ≠ k → ∀ b, (V j).ownBlock = some b → (V k).ownBlock ≠ some b
theorem AtOk.congr {B : Nat} {w : World} {g : Nat} {V : Nat → Value} {L L' : Nat → List Int} (h : AtOk B w g V L) (e : ∀ k, k < 21 → L k = L' k) : AtOk B w g V L' :=
 ⟨h.blk, fun k hk => e k hk ▸ h.own k hk, h.apart⟩
theorem AtOk.ne {B : Nat} {w : World} {g : Nat} {V : Nat → Value} {L : Nat → List Int} (h : AtOk B w g V L) (k : Nat) (hk : k < 21) : some g ≠ (V k).ownBlock := Kd.R_ne (h.own k hk) h.blk (by decide)
theorem AtOk.put {B : Nat} {w w1 : World} {g : Nat} {V : Nat → Value} {L : Nat → List Int} (h : AtOk B w g V L) (n : Nat) (hn : n < 21) {v1 : Value} {l1 : List Int} (hg : w.grownBy w1 (V n).ownBlock)
  (hat : v1.ownBlock = (V n).ownBlock ∨ ∃ b, v1.ownBlock = some b ∧ w.heap.size ≤ b) (ho : Kd.R (Kd.int .i64) 3 w1 B (fun _ => True) v1 l1) :
  AtOk B (w1.setCell ⟨g, n, none⟩ v1) g (updV V n v1) (updV L n l1) := by
 have hb1 := blk_grown h.blk hg (h.ne n hn)
 have hty : ∀ q, q ∈ 3 :: (Kd.int .i64).E → q ≠ 110 := by
  intro q hq
  simp [Kd.int, Kd.scalar] at hq
  omega
 refine ⟨?_, fun k hk => ?_, fun j k hj hk hjk b hb => ?_⟩
 ·rw [← arr21_set]
  exact blk_set hb1 n v1
 ·unfold updV
  by_cases e : k = n
  ·rw [if_pos e, if_pos e]
   exact Kd.R_set ho hb1 hty n v1
  ·rw [if_neg e, if_neg e]
   have hk1 : Kd.R (Kd.int .i64) 3 w1 B (fun _ => True) (V k) (L k) :=
    Kd.R_grown2 (h.own k hk) rfl hg (fun b hb e2 => h.apart n k hn hk (Ne.symm e) b hb e2.symm)
   exact Kd.R_set hk1 hb1 hty n v1
 ·unfold updV at hb ⊢
  by_cases e1 : j = n
  ·rw [if_pos e1] at hb
   rw [if_neg (fun e2 => hjk (e1.trans e2.symm))]
   intro hb2
   rcases hat with hat | ⟨b', hb', hle⟩
   ·rw [hat] at hb
    exact h.apart n k hn hk (fun e2 => hjk (e1.trans e2)) b hb hb2
   ·rw [hb'] at hb
    have := Kd.R_lt (h.own k hk) b hb2
    have : b' = b := Option.some.inj hb
    omega
  ·rw [if_neg e1] at hb
   by_cases e2 : k = n
   ·rw [if_pos e2]
    intro hb2
    rcases hat with hat | ⟨b', hb', hle⟩
    ·rw [hat] at hb2
     exact h.apart j n hj hn e1 b hb hb2
    ·rw [hb'] at hb2
     have := Kd.R_lt (h.own j hj) b hb
     have : b' = b := Option.some.inj hb2
     omega
   ·rw [if_neg e2]
    exact h.apart j k hj hk hjk b hb
theorem AtOk.setRow {B : Nat} {w : World} {g g2 : Nat} {V : Nat → Value} {L : Nat → List Int} (h : AtOk B w g V L) {cs : Array Value} (hg : w.heap[g2]? = some (.cells cs 110 (0, 0))) (cs' : Array Value) :
  ∀ k, k < 21 → Kd.R (Kd.int .i64) 3 (w.setRow g2 cs') B (fun _ => True) (V k) (L k) := by
 intro k hk
 have hty : ∀ q, q ∈ 3 :: (Kd.int .i64).E → q ≠ 110 := by
  intro q hq
  simp [Kd.int, Kd.scalar] at hq
  omega
 exact Kd.R_mono (Kd.R_step (Kd.R_types (h.own k hk) hg hty) (fun b hb _ => setRow_other w g2 b cs' hb.2)) (fun _ hb => hb.1)
theorem run_index_arr21 (w : World) (V : Nat → Value) (j : Nat) (hj : j < 21) (hV : (V j).oneCell' = true) : (Instr.index 110 (.agg (arr21 V)) (.int .i64 (j : Int))).run Try.prog w = .ok (V j) w := by
 have hu := Try.underlying110
 have he := Try.underlying31
 have hs : (Try.prog.info? 31).map (·.size) = some 1 := by kernel_rfl
 obtain ⟨i0, hi, hs1⟩ := Option.map_eq_some_iff.1 hs
 have hg := arr21_get V j hj
 have h1 : (0 : Int) ≤ (j : Int) ∧ (j : Int) < ((21 : Nat) : Int) := by omega
 have hk : (0 ≤ (j : Int) ∧ (j : Int) < ((21 : Nat) : Int)) := by omega
 unfold Instr.index
 simp only [asIntOf, Sem.run_bind, Sem.run_pure, Result.andThen_ok, run_underlying hu, if_pos hk, sizeOf, typeInfo, hi, hs1, part, isAgg, run_underlying he]
 simp [hg, hi, hs1]
theorem own_oneCell {w : World} {B e : Nat} {v : Value} {l : List Int} (h : Kd.R (Kd.int .i64) e w B (fun _ => True) v l) : v.oneCell' = true := by
 obtain ⟨A, c, rfl⟩ := Kd.R_slice h
 rfl
set_option maxHeartbeats 4000000 in
set_option maxRecDepth 100000 in
theorem impl_pairs.calls (A0 : Option Addr) (c0 : Nat) (l0 : List Int) (w : World) (hr0 : Kd.C (Kd.int .i64) w A0 l0.length l0) (hl : l0.length ≤ 40) (hm : ∀ x ∈ l0, 0 ≤ x ∧ x ≤ 20) :
  Calls Try.prog 175 #[.slice A0 l0.length c0] w fun e w' => ∃ V : Nat → Value, e = .returned (.tuple #[.agg (arr21 V), .bool (pairsOk l0)]) ∧ (∀ k, k < 21 → Kd.R (Kd.int .i64) 3 w' w.heap.size (fun _ => True) (V k) (atOf l0 k)) ∧ Below w.heap.size w w' := by
 have HR0 := Aside0.mk hr0
 have HM := Aside0.mk hm
 have HL := Aside0.mk hl
 clear hr0 hm
 go_enter Try.func175, Try.ntmps175
 go_wp2_with fail
 go_loopw [11] (fun i wr => ∃ (k : Nat) (V : Nat → Value), k ≤ l0.length ∧ i = .int .i64 k ∧ Aside0 (AtOk w.heap.size wr (w.heap.size + 1) V (atOf (l0.take k))) ∧ Aside0 (Below w.heap.size w wr) ∧ Aside0 (wr.heap[w.heap.size]? = some (.cells (arr21 (fun _ => .slice none 0 0)) 110 (0, 0)))) (fun i _ => l0.length - (intOf i).toNat)
 case atStart =>
  refine ⟨0, fun _ => .slice none 0 0, Nat.zero_le _, rfl, ⟨⟨?_, ?_, ?_⟩⟩, ⟨?_⟩, ⟨?_⟩⟩
  ·exact heap_alloc2_new w _ _
  ·intro k hk
   have : atOf (l0.take 0) k = [] := by simp [atOf, placesOf, placesFrom]
   rw [this]
   exact Kd.R_nil _ _ _ _ _
  ·intro j k _ _ _ b hb
   simp [Value.ownBlock] at hb
  ·exact below_alloc (below_alloc (Below.refl _ _) _) _
  ·exact heap_alloc2_old w _ _
 case round =>
  obtain ⟨k, V, hk, rfl, HA, HB, HG⟩ := hrel
  by_cases hlt : k < l0.length
  ·obtain ⟨ad, e, hx⟩ := Kd.at_int HR0.out (k : Int) (by omega) (by omega)
   cases e
   replace hx := (HB.out.cell (World.block_lt_of_cell? w _ hx)).trans hx
   obtain ⟨n, hn, hn20⟩ : ∃ n : Nat, rd l0 k = (n : Int) ∧ n ≤ 20 := by
    have h := HM.out (rd l0 k) (by rw [rd_nat l0 k hlt]; exact List.getElem_mem hlt)
    exact ⟨(rd l0 k).toNat, by omega, by omega⟩
   rw [hn, Int.toNat_natCast] at hx
   have HN := Aside0.mk hn
   have HS := Aside0.mk (atOf_step l0 k n hlt hn)
   clear hn
   have hc := blk_cell HA.out.blk n
   rw [arr21_get V n (by omega)] at hc
   have hf := blk_frozen HA.out.blk n
   have HO := Aside0.mk (HA.out.own n (by omega))
   have HNE := Aside0.mk (HA.out.ne n (by omega))
   have LM := Aside0.mk (show ((atOf (l0.take k) n).length + 1) * 8 ≤ 140737488355328 from by have h1 := atOf_len (l0.take k) n; have h2 := HL.out; have h3 := List.length_take_le k l0; omega)
   have HS0 := Aside0.mk (show w.heap.size ≤ wr.heap.size from HB.out.size)
   by_cases hpos : 0 < n
   ·go_wp2_with (first | ((with_reducible refine gate_builtin (b := .append) (xs := #[.tmp 21, .tmp 23]) rfl ?_); at_builtin; refine Kd.R_append (Kd.int .i64) (w0 := w) w.heap.size rfl (.tmp 21) (.tmp 23) 31 3 (.int .i64 0) 8 rfl Try.underlying31 info3 rfl (by decide) (by omega) (V n) (atOf (l0.take k) n) (k : Int) [.int .i64 (k : Int)] (fun _ => True) (fun _ => False) rfl rfl rfl (fun _ hk => hk.elim) (fun _ _ => trivial) HO.out HB.out HS0.out LM.out ?_; intro v1 w1 ho hb hg hat; obtain ⟨A1, c1, hv⟩ := Kd.R_slice ho; rw [List.length_append, List.length_singleton] at hv; subst hv; have HP := Aside0.mk (HA.out.put n (by omega) hg hat ho); have hb1 := blk_grown HA.out.blk hg HNE.out; have hc1 := blk_cell hb1 n; have hf1 := blk_frozen hb1 n; rw [arr21_get V n (by omega)] at hc1; have HG1 := Aside0.mk (blk_grown HG.out hg (Kd.R_ne HO.out HG.out (by decide))); have HB1 := Aside0.mk hb; clear hb1 ho hb hg hat hc hf))
    go_roundw
    case rel =>
     refine ⟨k + 1, _, by omega, by go_num, ⟨HP.out.congr (fun j _ => ?_)⟩, ⟨?_⟩, ⟨?_⟩⟩
     ·rw [HS.out j]
      unfold updV
      by_cases e : j = n
      ·subst e
       rw [if_pos rfl, if_pos ⟨rfl, hpos⟩]
      ·rw [if_neg e, if_neg (fun h => e h.1)]
     ·exact below_set HB1.out (Nat.le_succ _)
     ·exact blk_far HG1.out (by simp) _
    case measure => simp [intOf]; omega
   ·have h0 : n = 0 := by omega
    go_wp2_with fail
    go_roundw
    case rel =>
     refine ⟨k + 1, V, by omega, by go_num, ⟨HA.out.congr (fun j _ => ?_)⟩, ⟨HB.out⟩, ⟨HG.out⟩⟩
     rw [HS.out j, if_neg (fun h => hpos h.2)]
    case measure => simp [intOf]; omega
  ·have hkl : k = l0.length := by omega
   have HKL := Aside0.mk hkl
   clear hkl
   have HA2 := Aside0.mk (HA.out.congr (L' := atOf l0) (fun j _ => by rw [HKL.out, List.take_length]))
   clear HA HKL
   have hu := Try.underlying110
   have hsz : (Try.prog.info? 110).map (·.size) = some (arr21 V).size := by rw [arr21_size]; kernel_rfl
   go_wp2_with (first | ((with_reducible refine gate_dst (N := 27) rfl ?_); refine wpList_load_row rfl 110 (.tmp 4) rfl (w.heap.size + 1) rfl 110 (arr21 V) (0, 0) _ HA2.out.blk hu rfl hsz ?_))
   have hold : (arr21 (fun _ => .slice none 0 0)).size = (arr21 V).size := by rw [arr21_size, arr21_size]
   have HALL := Aside0.mk (show (arr21 V).all (·.oneCell') = true from by
    rw [Array.all_eq_true_iff_forall_mem]
    intro x hx
    simp only [arr21, List.mem_toArray, List.mem_map, List.mem_range] at hx
    obtain ⟨q, hq, rfl⟩ := hx
    exact own_oneCell (HA2.out.own q hq))
   have HV := Aside0.mk (show ∀ j : Nat, j < 21 → ∃ A c, ∀ W : World, (Instr.index 110 (.agg (arr21 V)) (.int .i64 (j : Int))).run Try.prog W = .ok (.slice A (atOf l0 j).length c) W from fun j hj => by
    obtain ⟨A, c, e⟩ := Kd.R_slice (HA2.out.own j hj)
    exact ⟨A, c, fun W => by rw [run_index_arr21 W V j hj (own_oneCell (HA2.out.own j hj)), e]⟩)
   go_loop [28] (fun i => ∃ j : Nat, j ≤ 21 ∧ i = .int .i64 j ∧ Aside0 (∀ q, q < j → ((atOf l0 q).length == 0 || (atOf l0 q).length == 2) = true)) (fun i => 21 - (intOf i).toNat)
   case atStart => exact ⟨0, by omega, rfl, ⟨fun q hq => by omega⟩⟩
   case round =>
    obtain ⟨j, hj, rfl, HQ⟩ := hrel
    by_cases hlt : j < 21
    ·obtain ⟨A, c, hix⟩ := HV.out j hlt
     by_cases h0 : (atOf l0 j).length = 0
     ·have b0 : (((atOf l0 j).length : Int) != 0) = false := by rw [h0]; rfl
      have b0' : (((atOf l0 j).length : Int) == 0) = true := by rw [h0]; rfl
      have H0 := Aside0.mk h0
      clear h0
      go_wp2_with fail
      go_round
      case rel => exact ⟨j + 1, by omega, by go_num, ⟨fun q hq => by
       by_cases e : q = j
       ·subst e; rw [H0.out]; rfl
       ·exact HQ.out q (by omega)⟩⟩
      case measure => simp [intOf]; omega
     ·by_cases h2 : (atOf l0 j).length = 2
      ·have b0 : (((atOf l0 j).length : Int) != 0) = true := by rw [h2]; rfl
       have b2 : (((atOf l0 j).length : Int) != 2) = false := by rw [h2]; rfl
       have H2 := Aside0.mk h2
       clear h2
       go_wp2_with fail
       go_round
       case rel => exact ⟨j + 1, by omega, by go_num, ⟨fun q hq => by
        by_cases e : q = j
        ·subst e; rw [H2.out]; rfl
        ·exact HQ.out q (by omega)⟩⟩
       case measure => simp [intOf]; omega
      ·have b0 : (((atOf l0 j).length : Int) != 0) = true := by rw [bne_iff_ne]; omega
       have b2 : (((atOf l0 j).length : Int) != 2) = true := by rw [bne_iff_ne]; omega
       have HNO := Aside0.mk (show pairsOk l0 = false from by
        unfold pairsOk
        rw [List.all_eq_false]
        exact ⟨j, List.mem_range.2 hlt, by simp [h0, h2]⟩)
       clear h0 h2
       go_wp2_with (first | ((with_reducible refine gate_dst (N := 39) rfl ?_); refine wpList_load_row rfl 110 (.tmp 4) rfl (w.heap.size + 1) rfl 110 (arr21 V) (0, 0) _ HA2.out.blk hu rfl hsz ?_) | ((with_reducible refine gate_store (t := 110) (p := 2) rfl ?_); refine wpList_store_row rfl 110 (.tmp 2) (.tmp 39) rfl w.heap.size (arr21 V) rfl rfl 110 (arr21 (fun _ => .slice none 0 0)) HG.out hsz hold HALL.out ?_))
       have hres := run_loadVar_row (P := Try.prog) (wr.setRow w.heap.size (arr21 V)) w.heap.size 110 110 (arr21 V) (0, 0) _ (setRow_heap _ _ _ _ _ _ HG.out) hu rfl hsz
       refine bodyPost_ret (v := .tuple #[.agg (arr21 V), .bool false]) (results_cell_tmp Try.results175 _ _ w.heap.size _ rfl hres) rfl ⟨V, by rw [HNO.out], ?_, ?_⟩
       ·exact AtOk.setRow HA2.out HG.out _
       ·exact below_setRow HB.out (Nat.le_refl _) _
    ·have HYES := Aside0.mk (show pairsOk l0 = true from by
      unfold pairsOk
      rw [List.all_eq_true]
      intro q hq
      exact HQ.out q (by have := List.mem_range.1 hq; omega))
     go_wp2_with (first | ((with_reducible refine gate_dst (N := 41) rfl ?_); refine wpList_load_row rfl 110 (.tmp 4) rfl (w.heap.size + 1) rfl 110 (arr21 V) (0, 0) _ HA2.out.blk hu rfl hsz ?_) | ((with_reducible refine gate_store (t := 110) (p := 2) rfl ?_); refine wpList_store_row rfl 110 (.tmp 2) (.tmp 41) rfl w.heap.size (arr21 V) rfl rfl 110 (arr21 (fun _ => .slice none 0 0)) HG.out hsz hold HALL.out ?_))
     have hres := run_loadVar_row (P := Try.prog) (wr.setRow w.heap.size (arr21 V)) w.heap.size 110 110 (arr21 V) (0, 0) _ (setRow_heap _ _ _ _ _ _ HG.out) hu rfl hsz
     refine bodyPost_ret (v := .tuple #[.agg (arr21 V), .bool true]) (results_cell_tmp Try.results175 _ _ w.heap.size _ rfl hres) rfl ⟨V, by rw [HYES.out], ?_, ?_⟩
     ·exact AtOk.setRow HA2.out HG.out _
     ·exact below_setRow HB.out (Nat.le_refl _) _


end Go.Proofs.Ytaohgllnoomaeaa.Fn
namespace Go.Proofs.Ytaohgllnoomaeaa.Fn
open Go.RowKit Go.Proofs.YtaohgllnoomaeaaW.PrintWords Go.Proofs.YtaohgllnoomaeaaW.PrintLast Go.Proofs.YtaohgllnoomaeaaW.PrintMore
attribute [local go_sem] max2_int min2_int max_two min_two max_three min_three max_four min_four   -- for this text's walks alone
set_option linter.unusedVariables false
set_option linter.unusedSimpArgs false

/-! ### impl_IsRow: function 66 -/
def impl_IsRow.l0 : Nat → List Int → List Int → Int → Int → Option (Bool)
 | 0, _, _, _, _ => none
 | k + 1, x0, x5, x6, x7 => if x7 < x6 then (if 0 ≤ x7 then (if x7 < (x5.length : Int) then (if (rd x5 x7) < 0 then (some false) else (if (rd x5 x7) > 20 then (some false) else (impl_IsRow.l0 k x0 x5 x6 (wrap64 (x7 + 1))))) else (none)) else (none)) else (some (decide ((x0.length : Int) ≤ 40)))
def impl_IsRow.f (k : Nat) (l0 : List Int) : Option (Bool) := impl_IsRow.l0 k l0 l0 (l0.length : Int) 0
theorem impl_IsRow.mono_l : ∀ k, (∀ y0 y1 y2 y3, LeO (impl_IsRow.l0 k y0 y1 y2 y3) (impl_IsRow.l0 (k + 1) y0 y1 y2 y3))
 | 0 => fun _ _ _ _ r h => by simp [impl_IsRow.l0] at h
 | k + 1 => by
  have ih0 := impl_IsRow.mono_l k
  ·intro y0 y1 y2 y3
   unfold impl_IsRow.l0
   repeat' (first | (with_reducible first | exact ih0 _ _ _ _ | exact LeO.refl _ | exact LeO.none _ | refine LeO.ite ?_ ?_ | refine LeO.bind ?_ (fun _ => ?_)) | exact ih0 _ _ _ _ | exact LeO.none _ | refine LeO.ite ?_ ?_ | refine LeO.bind ?_ (fun _ => ?_))
theorem impl_IsRow.mono : ∀ a0 k, LeO (impl_IsRow.f k a0) (impl_IsRow.f (k + 1) a0) := by
 intro a0 k
 have ih0 := impl_IsRow.mono_l k
 unfold impl_IsRow.f
 repeat' (first | (with_reducible first | exact ih0 _ _ _ _ | exact LeO.refl _ | exact LeO.none _ | refine LeO.ite ?_ ?_ | refine LeO.bind ?_ (fun _ => ?_)) | exact ih0 _ _ _ _ | exact LeO.none _ | refine LeO.ite ?_ ?_ | refine LeO.bind ?_ (fun _ => ?_))
set_option maxHeartbeats 8000000 in
set_option maxRecDepth 100000 in
theorem impl_IsRow.calls (k : Nat) (A0 : Option Addr) (c0 : Nat) (l0 : List Int) (r : Bool) (w : World) (hr0 : Kd.C (Kd.int .i64) w A0 l0.length l0) (hc0 : l0.length ≤ c0) (h : impl_IsRow.f k l0 = some r) :
  Calls Try.prog 66 #[.slice A0 l0.length c0] w fun e w' => e = .returned (.bool r) ∧ Drawn0 w w' := by
 have HR0 := Aside0.mk hr0
 have HC0 := Aside0.mk hc0
 clear hr0 hc0
 have H := h
 unfold impl_IsRow.f at H
 clear h
 have H' := Aside0.mk H
 clear H
 go_enter Try.func66, Try.ntmps66
 go_wp2
 go_loopg [7] k (fun kq v7 w' => ∃ (x7_1 : Int), v7 = .int .i64 x7_1 ∧ Aside0 (impl_IsRow.l0 kq l0 l0 (l0.length : Int) x7_1 = some r) ∧ Aside0 (kq ≤ k) ∧ Drawn0 w w')
 case atStart => exact ⟨(0), eqd, H', ⟨Nat.le_refl _⟩, by repeat (first | exact Drawn0.refl _ | apply Drawn0.step)⟩
 case round =>
  clear H'
  obtain ⟨x7_1, rfl, HA, HK1, ⟨m1, rfl⟩⟩ := hrel
  cases gk with
  | zero => exact absurd HA.out (by simp [impl_IsRow.l0])
  | succ k1 =>
   have H := HA.out
   clear HA
   simp only [impl_IsRow.l0] at H
   by_cases c2 : x7_1 < (l0.length : Int)
   ·rw [if_pos c2] at H
    have c2b0 : decide (x7_1 < (l0.length : Int)) = true := decide_eq_true c2
    clear c2
    by_cases c3 : 0 ≤ x7_1
    ·rw [if_pos c3] at H
     have c3b0 : decide (0 ≤ x7_1) = true := decide_eq_true c3
     clear c3
     by_cases c4 : x7_1 < (l0.length : Int)
     ·rw [if_pos c4] at H
      have c4b0 : decide (x7_1 < (l0.length : Int)) = true := decide_eq_true c4
      clear c4
      by_cases c5 : (rd l0 x7_1) < 0
      ·rw [if_pos c5] at H
       have c5b0 : decide ((rd l0 x7_1) < 0) = true := decide_eq_true c5
       clear c5
       obtain rfl := Option.some.inj H
       have p145 : 0 ≤ (x7_1 : Int) := ofd
       have q145 : x7_1 < (l0.length : Int) := ofd
       obtain ⟨ad145, e145, hx145_0⟩ := Kd.at_int HR0.out x7_1 p145 q145
       cases e145
       replace p145 := eq_true p145
       replace q145 := eq_true q145
       go_wp2
       go_ret
       exact ⟨by first | rfl | (simp; done) | (simp [*]; done), by repeat (first | exact Drawn0.refl _ | apply Drawn0.step)⟩
      ·rw [if_neg c5] at H
       have c5b0 : decide ((rd l0 x7_1) < 0) = false := decide_eq_false c5
       clear c5
       by_cases c6 : (rd l0 x7_1) > 20
       ·rw [if_pos c6] at H
        have c6b0 : decide (20 < (rd l0 x7_1)) = true := decide_eq_true c6
        clear c6
        obtain rfl := Option.some.inj H
        have p145 : 0 ≤ (x7_1 : Int) := ofd
        have q145 : x7_1 < (l0.length : Int) := ofd
        obtain ⟨ad145, e145, hx145_0⟩ := Kd.at_int HR0.out x7_1 p145 q145
        cases e145
        replace p145 := eq_true p145
        replace q145 := eq_true q145
        go_wp2
        go_ret
        exact ⟨by first | rfl | (simp; done) | (simp [*]; done), by repeat (first | exact Drawn0.refl _ | apply Drawn0.step)⟩
       ·rw [if_neg c6] at H
        have c6b0 : decide (20 < (rd l0 x7_1)) = false := decide_eq_false c6
        clear c6
        have H' := Aside0.mk H
        clear H
        have p145 : 0 ≤ (x7_1 : Int) := ofd
        have q145 : x7_1 < (l0.length : Int) := ofd
        obtain ⟨ad145, e145, hx145_0⟩ := Kd.at_int HR0.out x7_1 p145 q145
        cases e145
        replace p145 := eq_true p145
        replace q145 := eq_true q145
        go_wp2
        go_roundg k1
        case measure => have := HK1.out; omega
        case rel => exact ⟨(wrap64 (x7_1 + 1)), eqd, H', ⟨by have := HK1.out; omega⟩, by repeat (first | exact Drawn0.refl _ | apply Drawn0.step)⟩
     ·rw [if_neg c4] at H
      exact absurd H (by simp)
    ·rw [if_neg c3] at H
     exact absurd H (by simp)
   ·rw [if_neg c2] at H
    have c2b0 : decide (x7_1 < (l0.length : Int)) = false := decide_eq_false c2
    clear c2
    obtain rfl := Option.some.inj H
    go_wp2
    go_ret
    exact ⟨by first | rfl | (simp; done) | (simp [*]; done), by repeat (first | exact Drawn0.refl _ | apply Drawn0.step)⟩

noncomputable def impl_IsRow.L0 (x0 : List Int) (x5 : List Int) (x6 : Int) (x7 : Int) : Option (Bool) := lim fun k => impl_IsRow.l0 k x0 x5 x6 x7
theorem impl_IsRow.L0_lim (x0 : List Int) (x5 : List Int) (x6 : Int) (x7 : Int) : Lim (fun k => impl_IsRow.l0 k x0 x5 x6 x7) (impl_IsRow.L0 x0 x5 x6 x7) := Lim.of fun k => (impl_IsRow.mono_l k) x0 x5 x6 x7
noncomputable def impl_IsRow.F (l0 : List Int) : Option (Bool) := lim fun k => impl_IsRow.f k l0
theorem impl_IsRow.F_lim (l0 : List Int) : Lim (fun k => impl_IsRow.f k l0) (impl_IsRow.F l0) := Lim.of fun k => impl_IsRow.mono l0 k
theorem impl_IsRow.L0_eq (x0 : List Int) (x5 : List Int) (x6 : Int) (x7 : Int) : impl_IsRow.L0 x0 x5 x6 x7 = (if x7 < x6 then (if 0 ≤ x7 then (if x7 < (x5.length : Int) then (if (rd x5 x7) < 0 then (some false) else (if (rd x5 x7) > 20 then (some false) else (impl_IsRow.L0 x0 x5 x6 (wrap64 (x7 + 1))))) else (none)) else (none)) else (some (decide ((x0.length : Int) ≤ 40)))) :=
 Lim.step (f := fun k => impl_IsRow.l0 (k + 1) x0 x5 x6 x7) (impl_IsRow.L0_lim x0 x5 x6 x7) (fun _ => rfl) (by
  simp only [impl_IsRow.l0]
  repeat' (first | (with_reducible first | exact Lim.const _ | exact impl_IsRow.L0_lim _ _ _ _ | refine Lim.ite ?_ ?_ | refine Lim.bind ?_ (fun _ => ?_))))
theorem impl_IsRow.F_eq (l0 : List Int) : impl_IsRow.F l0 = (impl_IsRow.L0 l0 l0 (l0.length : Int) 0) :=
 Lim.unique (impl_IsRow.F_lim l0) (by
  unfold impl_IsRow.f
  repeat' (first | (with_reducible first | exact Lim.const _ | exact impl_IsRow.L0_lim _ _ _ _ | refine Lim.ite ?_ ?_ | refine Lim.bind ?_ (fun _ => ?_))))

end Go.Proofs.Ytaohgllnoomaeaa.Fn
namespace Go.Proofs.Ytaohgllnoomaeaa.Fn
open Go.RowKit Go.Proofs.YtaohgllnoomaeaaW.PrintWords Go.Proofs.YtaohgllnoomaeaaW.PrintLast Go.Proofs.YtaohgllnoomaeaaW.PrintMore
attribute [local go_sem] max2_int min2_int max_two min_two max_three min_three max_four min_four   -- for this text's walks alone
set_option linter.unusedVariables false
set_option linter.unusedSimpArgs false

/-! ### impl_isPairs: function 154 (given) -/
def impl_isPairs.f (k : Nat) (l0 : List Int) : Option (Bool) := (impl_IsRow.f k l0).bind fun t1 => (if t1 = true then (some (pairsOk l0)) else (some false))
theorem impl_isPairs.mono : ∀ a0 k, LeO (impl_isPairs.f k a0) (impl_isPairs.f (k + 1) a0) := by
 intro a0 k
 unfold impl_isPairs.f
 refine LeO.bind (impl_IsRow.mono _ _) (fun _ => LeO.refl _)
/-- A row, out of the function's answer. -/
theorem impl_IsRow.l0_row (l : List Int) : ∀ (k : Nat) (n : Nat) (i : Int), 0 ≤ i → (l.length : Int) - i ≤ n → l.length ≤ 9223372036854775807 → impl_IsRow.l0 k l l (l.length : Int) i = some true → l.length ≤ 40 ∧ ∀ j : Nat, i ≤ (j : Int) → j < l.length → 0 ≤ rd l j ∧ rd l j ≤ 20
 | 0, n, i, h0, hn, hl, h => by simp [impl_IsRow.l0] at h
 | k + 1, n, i, h0, hn, hl, h => by
  rw [impl_IsRow.l0] at h
  by_cases h1 : i < (l.length : Int)
  ·rw [if_pos h1, if_pos h0, if_pos h1] at h
   by_cases h2 : rd l i < 0
   ·rw [if_pos h2] at h
    simp at h
   ·rw [if_neg h2] at h
    by_cases h3 : rd l i > 20
    ·rw [if_pos h3] at h
     simp at h
    ·rw [if_neg h3, wrap_in (n := i + 1) (by omega) (by omega)] at h
     obtain ⟨g1, g2⟩ := impl_IsRow.l0_row l k (n - 1) (i + 1) (by omega) (by omega) hl h
     refine ⟨g1, fun j hj hjl => ?_⟩
     by_cases e : (j : Int) = i
     ·rw [e]
      omega
     ·exact g2 j (by omega) hjl
  ·rw [if_neg h1] at h
   have := of_decide_eq_true (Option.some.inj h)
   exact ⟨by omega, fun j hj hjl => by omega⟩
theorem impl_IsRow.f_row (k : Nat) (l : List Int) (hl : l.length ≤ 9223372036854775807) (h : impl_IsRow.f k l = some true) : l.length ≤ 40 ∧ ∀ x ∈ l, 0 ≤ x ∧ x ≤ 20 := by
 obtain ⟨g1, g2⟩ := impl_IsRow.l0_row l k l.length 0 (by omega) (by omega) hl h
 refine ⟨g1, fun x hx => ?_⟩
 obtain ⟨j, hj, rfl⟩ := List.getElem_of_mem hx
 have := g2 j (by omega) hj
 rwa [rd_nat l j hj] at this
theorem arr21_oneCell {w : World} {B : Nat} {V : Nat → Value} {L : Nat → List Int} (h : ∀ k, k < 21 → Kd.R (Kd.int .i64) 3 w B (fun _ => True) (V k) (L k)) : (arr21 V).all (·.oneCell') = true := by
 rw [Array.all_eq_true_iff_forall_mem]
 intro x hx
 simp only [arr21, List.mem_toArray, List.mem_map, List.mem_range] at hx
 obtain ⟨q, hq, rfl⟩ := hx
 exact own_oneCell (h q hq)
theorem cells_max {w : World} {A : Option Addr} {n : Nat} {l : List Int} (h : Kd.C (Kd.int .i64) w A n l) : l.length ≤ 9223372036854775807 := by
 have h1 := Kd.C_len h
 have h2 := Kd.C_max h
 omega
set_option maxHeartbeats 4000000 in
set_option maxRecDepth 100000 in
theorem impl_isPairs.calls (k : Nat) (A0 : Option Addr) (c0 : Nat) (l0 : List Int) (r : Bool) (w : World) (hr0 : Kd.C (Kd.int .i64) w A0 l0.length l0) (hc0 : l0.length ≤ c0) (h : impl_isPairs.f k l0 = some r) :
  Calls Try.prog 154 #[.slice A0 l0.length c0] w fun e w' => e = .returned (.bool r) ∧ Below w.heap.size w w' := by
 have HR0 := Aside0.mk hr0
 have HC0 := Aside0.mk hc0
 obtain ⟨t1, hA, h⟩ := Option.bind_eq_some_iff.1 h
 have A1 := Aside0.mk hA
 cases t1 with
 | false =>
  rw [if_neg (by decide)] at h
  obtain rfl := Option.some.inj h
  clear hr0 hc0 hA h
  go_enter Try.func154, Try.ntmps154
  go_wp2_with (first | (go_at_call 66; refine (impl_IsRow.calls k _ _ l0 false _ HR0.out HC0.out A1.out).mono ?_; rintro e w' ⟨rfl, ⟨nd, rfl⟩⟩))
  go_ret
  exact ⟨rfl, pw_below_drewN (Below.refl _ _) _⟩
 | true =>
  rw [if_pos rfl] at h
  obtain rfl := Option.some.inj h
  have HROW := Aside0.mk (show l0.length ≤ 40 ∧ ∀ x ∈ l0, 0 ≤ x ∧ x ≤ 20 from impl_IsRow.f_row k l0 (cells_max hr0) hA)
  clear hr0 hc0 hA h
  have hu := Try.underlying110
  go_enter Try.func154, Try.ntmps154
  go_wp2_with (first | (go_at_call 66; refine (impl_IsRow.calls k _ _ l0 true _ HR0.out HC0.out A1.out).mono ?_; rintro e w' ⟨rfl, ⟨nd, rfl⟩⟩) | (go_at_call 175; refine (impl_pairs.calls _ _ l0 _ (Kd.C_drewN HR0.out nd) HROW.out.1 HROW.out.2).mono ?_; rintro e w1 ⟨V, rfl, hV, hB⟩; have HV := Aside0.mk hV; have HALL := Aside0.mk (arr21_oneCell hV); have HB := Aside0.mk hB; clear hV hB) | ((with_reducible refine gate_store (t := 110) (p := 3) rfl ?_); refine wpList_store_row rfl 110 (.tmp 3) (.tmp 11) rfl w1.heap.size (arr21 V) rfl rfl 110 _ (heap_alloc_new _ _) (by rw [arr21_size]; kernel_rfl) (by rw [arr21_size]; rfl) HALL.out ?_))
  go_ret
  exact ⟨rfl, below_setRow (below_alloc (below_step (pw_below_drewN (Below.refl _ _) _) HB.out) _) (below_size (below_step (pw_below_drewN (Below.refl _ _) nd) HB.out)) _⟩

noncomputable def impl_isPairs.F (l0 : List Int) : Option (Bool) := lim fun k => impl_isPairs.f k l0
theorem impl_isPairs.F_lim (l0 : List Int) : Lim (fun k => impl_isPairs.f k l0) (impl_isPairs.F l0) := Lim.of fun k => impl_isPairs.mono l0 k
theorem impl_isPairs.F_eq (l0 : List Int) : impl_isPairs.F l0 = ((impl_IsRow.F l0).bind fun t1 => (if t1 = true then (some (pairsOk l0)) else (some false))) :=
 Lim.unique (impl_isPairs.F_lim l0) (by
  unfold impl_isPairs.f
  repeat' first
  | (with_reducible exact Lim.const _)
  | (with_reducible exact impl_IsRow.F_lim _)
  | (with_reducible refine Lim.ite ?_ ?_)
  | (with_reducible refine Lim.bind ?_ (fun _ => ?_)))

end Go.Proofs.Ytaohgllnoomaeaa.Fn
namespace Go.Proofs.Ytaohgllnoomaeaa.Fn
open Go.RowKit Go.Proofs.YtaohgllnoomaeaaW.PrintWords Go.Proofs.YtaohgllnoomaeaaW.PrintLast Go.Proofs.YtaohgllnoomaeaaW.PrintMore
attribute [local go_sem] max2_int min2_int max_two min_two max_three min_three max_four min_four   -- for this text's walks alone
set_option linter.unusedVariables false
set_option linter.unusedSimpArgs false

/-! ### impl_fits: function 158 (given) -/
/-- The distance of each number that stands twice is the number and the shift together. -/
def fitsAt (l : List Int) (s : Int) : Bool := (List.range 21).all fun n => !((atOf l n).length == 2 && (wrap64 (rd (atOf l n) 1 - rd (atOf l n) 0) != wrap64 ((n : Int) + s)))
def impl_fits.f (k : Nat) (l0 : List Int) (a1 : Int) : Option (Bool) := (impl_isPairs.f k l0).bind fun t1 => (if t1 = true then (some (fitsAt l0 a1)) else (some false))
theorem impl_fits.mono : ∀ a0 a1 k, LeO (impl_fits.f k a0 a1) (impl_fits.f (k + 1) a0 a1) := by
 intro a0 a1 k
 unfold impl_fits.f
 refine LeO.bind (impl_isPairs.mono _ _) (fun _ => LeO.refl _)
theorem impl_isPairs.f_row (k : Nat) (l : List Int) (hl : l.length ≤ 9223372036854775807) (h : impl_isPairs.f k l = some true) : l.length ≤ 40 ∧ ∀ x ∈ l, 0 ≤ x ∧ x ≤ 20 := by
 obtain ⟨t1, hA, h⟩ := Option.bind_eq_some_iff.1 h
 cases t1 with
 | false => rw [if_neg (by decide)] at h; simp at h
 | true => exact impl_IsRow.f_row k l hl hA
theorem arr21_R_setRow {B : Nat} {w : World} {v : Value} {l : List Int} (h : Kd.R (Kd.int .i64) 3 w B (fun _ => True) v l) (o : Obj) (cs : Array Value) : Kd.R (Kd.int .i64) 3 ((w.alloc o).setRow w.heap.size cs) B (fun _ => True) v l :=
 Kd.R_mono (Kd.R_step (Kd.R_bound h) (fun b hb _ => by rw [setRow_other _ _ _ _ (by have := hb.2.2.1; omega), Below.heap_alloc _ _ _ hb.2.2.1])) (fun _ hb => hb.1)
set_option maxHeartbeats 4000000 in
set_option maxRecDepth 100000 in
theorem impl_fits.calls (k : Nat) (A0 : Option Addr) (c0 : Nat) (l0 : List Int) (a1 : Int) (r : Bool) (w : World) (hr0 : Kd.C (Kd.int .i64) w A0 l0.length l0) (hc0 : l0.length ≤ c0) (h : impl_fits.f k l0 a1 = some r) :
  Calls Try.prog 158 #[.slice A0 l0.length c0, .int .i64 a1] w fun e w' => e = .returned (.bool r) ∧ Below w.heap.size w w' := by
 have HR0 := Aside0.mk hr0
 have HC0 := Aside0.mk hc0
 obtain ⟨t1, hA, h⟩ := Option.bind_eq_some_iff.1 h
 have A1 := Aside0.mk hA
 cases t1 with
 | false =>
  rw [if_neg (by decide)] at h
  obtain rfl := Option.some.inj h
  clear hr0 hc0 hA h
  go_enter Try.func158, Try.ntmps158
  go_wp2_with (first | (go_at_call 154; refine (impl_isPairs.calls k _ _ l0 false _ HR0.out HC0.out A1.out).mono ?_; rintro e w0 ⟨rfl, hB⟩; have HB := Aside0.mk hB; clear hB))
  go_ret
  exact ⟨rfl, HB.out⟩
 | true =>
  rw [if_pos rfl] at h
  obtain rfl := Option.some.inj h
  have HROW := Aside0.mk (impl_isPairs.f_row k l0 (cells_max hr0) hA)
  clear hr0 hc0 hA h
  have hu := Try.underlying110
  go_enter Try.func158, Try.ntmps158
  go_wp2_with (first | (go_at_call 154; refine (impl_isPairs.calls k _ _ l0 true _ HR0.out HC0.out A1.out).mono ?_; rintro e w0 ⟨rfl, hB⟩; have HB0 := Aside0.mk hB; clear hB) | (go_at_call 175; refine (impl_pairs.calls _ _ l0 _ (Kd.C_below HR0.out HB0.out) HROW.out.1 HROW.out.2).mono ?_; rintro e w1 ⟨V, rfl, hV, hB⟩; have HV := Aside0.mk hV; have HALL := Aside0.mk (arr21_oneCell hV); have HB := Aside0.mk (below_step HB0.out hB); clear hV hB) | ((with_reducible refine gate_store (t := 110) (p := 5) rfl ?_); refine wpList_store_row rfl 110 (.tmp 5) (.tmp 15) rfl w1.heap.size (arr21 V) rfl rfl 110 _ (heap_alloc_new _ _) (by rw [arr21_size]; kernel_rfl) (by rw [arr21_size]; rfl) HALL.out ?_) | ((with_reducible refine gate_dst (N := 17) rfl ?_); refine wpList_load_row rfl 110 (.tmp 5) rfl w1.heap.size rfl 110 (arr21 V) (0, 0) _ (setRow_heap _ _ _ _ _ _ (heap_alloc_new _ _)) hu rfl (by rw [arr21_size]; kernel_rfl) ?_))
  have hW1 := below_setRow (below_alloc HB.out (.cells #[.slice none 0 0, .slice none 0 0, .slice none 0 0, .slice none 0 0, .slice none 0 0, .slice none 0 0, .slice none 0 0, .slice none 0 0, .slice none 0 0, .slice none 0 0, .slice none 0 0, .slice none 0 0, .slice none 0 0, .slice none 0 0, .slice none 0 0, .slice none 0 0, .slice none 0 0, .slice none 0 0, .slice none 0 0, .slice none 0 0, .slice none 0 0] 110)) (below_size HB.out) (arr21 V)
  have hW2 := fun k hk => arr21_R_setRow (HV.out k hk) (.cells #[.slice none 0 0, .slice none 0 0, .slice none 0 0, .slice none 0 0, .slice none 0 0, .slice none 0 0, .slice none 0 0, .slice none 0 0, .slice none 0 0, .slice none 0 0, .slice none 0 0, .slice none 0 0, .slice none 0 0, .slice none 0 0, .slice none 0 0, .slice none 0 0, .slice none 0 0, .slice none 0 0, .slice none 0 0, .slice none 0 0, .slice none 0 0] 110) (arr21 V)
  generalize World.setRow _ w1.heap.size (arr21 V) = W at hW1 hW2 ⊢
  have HW1 := Aside0.mk hW1
  have HW2 := Aside0.mk hW2
  clear hW1 hW2 HV HB HALL
  go_loopw [18] (fun i wr => ∃ j : Nat, j ≤ 21 ∧ i = .int .i64 j ∧ Aside0 (Drawn0 W wr) ∧ Aside0 (∀ q, q < j → (!((atOf l0 q).length == 2 && (wrap64 (rd (atOf l0 q) 1 - rd (atOf l0 q) 0) != wrap64 ((q : Int) + a1)))) = true)) (fun i _ => 21 - (intOf i).toNat)
  case atStart => exact ⟨0, by omega, rfl, ⟨Drawn0.refl _⟩, ⟨fun q hq => by omega⟩⟩
  case round =>
   obtain ⟨j, hj, rfl, HD, HQ⟩ := hrel
   obtain ⟨⟨nd2, rfl⟩⟩ := HD
   by_cases hlt : j < 21
   ·by_cases h2 : (atOf l0 j).length = 2
    ·obtain ⟨g, cap, hv, _, hg, cells, hh⟩ := Kd.R_form (HW2.out j hlt) (by omega)
     have hR := HW2.out j hlt
     have hix := fun U => run_index_arr21 U V j hlt (own_oneCell hR)
     rw [hv] at hR
     rw [hv, h2] at hix
     have hx0 := (Kd.R_celln 0 hR 0 (by omega) (by omega)).1
     have hx1 := (Kd.R_celln 0 hR 1 (by omega) (by omega)).1
     have b2 : ((2 : Int) == 2) = true := rfl
     generalize e0 : rd (atOf l0 j) 0 = x0
     generalize e1 : rd (atOf l0 j) 1 = x1
     replace hx0 : W.cell? ⟨g, 0, none⟩ = some (.int .i64 x0) := by rw [← e0]; exact hx0
     replace hx1 : W.cell? ⟨g, 1, none⟩ = some (.int .i64 x1) := by rw [← e1]; exact hx1
     have H2 := Aside0.mk h2
     have E0 := Aside0.mk e0
     have E1 := Aside0.mk e1
     clear hR hv hh hg h2 e0 e1
     by_cases hne : wrap64 (x1 - x0) = wrap64 ((j : Int) + a1)
     ·have b3 : (wrap64 (x1 - x0) != wrap64 ((j : Int) + a1)) = false := bne_eq_false_iff_eq.mpr hne
      clear hne
      have B3 := Aside0.mk b3
      go_wp2_with fail
      go_quiet (fail)
      go_wp2_with fail
      go_roundw
      case rel => exact ⟨j + 1, by omega, by go_num, by (first | exact ⟨⟨⟨_, rfl⟩⟩⟩ | exact ⟨⟨⟨_, World.drewN_drewN ..⟩⟩⟩), ⟨fun q hq => by
       by_cases e : q = j
       ·subst e
        rw [E0.out, E1.out, B3.out, Bool.and_false]
        rfl
       ·exact HQ.out q (by omega)⟩⟩
      case measure => simp [intOf]; omega
     ·have b3 : (wrap64 (x1 - x0) != wrap64 ((j : Int) + a1)) = true := bne_iff_ne.mpr hne
      clear hne
      have HNO := Aside0.mk (show fitsAt l0 a1 = false from by
       unfold fitsAt
       rw [List.all_eq_false]
       exact ⟨j, List.mem_range.2 hlt, by rw [E0.out, E1.out, b3, H2.out]; decide⟩)
      go_wp2_with fail
      go_quiet (fail)
      go_wp2_with fail
      go_ret
      exact ⟨by rw [HNO.out]; rfl, by repeat (first | exact HW1.out | apply pw_below_drewN)⟩
    ·obtain ⟨A, cap, hv⟩ := Kd.R_slice (HW2.out j hlt)
     have hix := fun U => run_index_arr21 U V j hlt (own_oneCell (HW2.out j hlt))
     rw [hv] at hix
     have b2 : (((atOf l0 j).length : Int) == 2) = false := by rw [beq_eq_false_iff_ne]; omega
     have B2 := Aside0.mk (show ((atOf l0 j).length == 2) = false from by rw [beq_eq_false_iff_ne]; exact h2)
     clear h2 hv
     go_wp2_with fail
     go_quiet (fail)
     go_wp2_with fail
     go_roundw
     case rel => exact ⟨j + 1, by omega, by go_num, by (first | exact ⟨⟨⟨_, rfl⟩⟩⟩ | exact ⟨⟨⟨_, World.drewN_drewN ..⟩⟩⟩), ⟨fun q hq => by
      by_cases e : q = j
      ·subst e
       rw [B2.out, Bool.false_and]
       rfl
      ·exact HQ.out q (by omega)⟩⟩
     case measure => simp [intOf]; omega
   ·have HYES := Aside0.mk (show fitsAt l0 a1 = true from by
     unfold fitsAt
     rw [List.all_eq_true]
     intro q hq
     exact HQ.out q (by have := List.mem_range.1 hq; omega))
    go_wp2_with fail
    go_ret
    exact ⟨by rw [HYES.out]; rfl, by repeat (first | exact HW1.out | apply pw_below_drewN)⟩

noncomputable def impl_fits.F (l0 : List Int) (a1 : Int) : Option (Bool) := lim fun k => impl_fits.f k l0 a1
theorem impl_fits.F_lim (l0 : List Int) (a1 : Int) : Lim (fun k => impl_fits.f k l0 a1) (impl_fits.F l0 a1) := Lim.of fun k => impl_fits.mono l0 a1 k
theorem impl_fits.F_eq (l0 : List Int) (a1 : Int) : impl_fits.F l0 a1 = ((impl_isPairs.F l0).bind fun t1 => (if t1 = true then (some (fitsAt l0 a1)) else (some false))) :=
 Lim.unique (impl_fits.F_lim l0 a1) (by
  unfold impl_fits.f
  repeat' first
  | (with_reducible exact Lim.const _)
  | (with_reducible exact impl_isPairs.F_lim _)
  | (with_reducible refine Lim.ite ?_ ?_)
  | (with_reducible refine Lim.bind ?_ (fun _ => ?_)))

end Go.Proofs.Ytaohgllnoomaeaa.Fn
namespace Go.Proofs.Ytaohgllnoomaeaa.Fn
open Go.RowKit Go.Proofs.YtaohgllnoomaeaaW.PrintWords Go.Proofs.YtaohgllnoomaeaaW.PrintLast Go.Proofs.YtaohgllnoomaeaaW.PrintMore
attribute [local go_sem] max2_int min2_int max_two min_two max_three min_three max_four min_four   -- for this text's walks alone
set_option linter.unusedVariables false
set_option linter.unusedSimpArgs false

/-! ### spec_l1Has: function 195 -/
def spec_l1Has.l0 : Nat → Int → List Int → Int → Int → Option (Bool)
 | 0, _, _, _, _ => none
 | k + 1, x1, x7, x8, x9 => if x9 < x8 then (if 0 ≤ x9 then (if x9 < (x7.length : Int) then (if (rd x7 x9) = x1 then (some true) else (spec_l1Has.l0 k x1 x7 x8 (wrap64 (x9 + 1)))) else (none)) else (none)) else (some false)
def spec_l1Has.f (k : Nat) (l0 : List Int) (a1 : Int) : Option (Bool) := spec_l1Has.l0 k a1 l0 (l0.length : Int) 0
theorem spec_l1Has.mono_l : ∀ k, (∀ y0 y1 y2 y3, LeO (spec_l1Has.l0 k y0 y1 y2 y3) (spec_l1Has.l0 (k + 1) y0 y1 y2 y3))
 | 0 => fun _ _ _ _ r h => by simp [spec_l1Has.l0] at h
 | k + 1 => by
  have ih0 := spec_l1Has.mono_l k
  ·intro y0 y1 y2 y3
   unfold spec_l1Has.l0
   repeat' (first | (with_reducible first | exact ih0 _ _ _ _ | exact LeO.refl _ | exact LeO.none _ | refine LeO.ite ?_ ?_ | refine LeO.bind ?_ (fun _ => ?_)) | exact ih0 _ _ _ _ | exact LeO.none _ | refine LeO.ite ?_ ?_ | refine LeO.bind ?_ (fun _ => ?_))
theorem spec_l1Has.mono : ∀ a0 a1 k, LeO (spec_l1Has.f k a0 a1) (spec_l1Has.f (k + 1) a0 a1) := by
 intro a0 a1 k
 have ih0 := spec_l1Has.mono_l k
 unfold spec_l1Has.f
 repeat' (first | (with_reducible first | exact ih0 _ _ _ _ | exact LeO.refl _ | exact LeO.none _ | refine LeO.ite ?_ ?_ | refine LeO.bind ?_ (fun _ => ?_)) | exact ih0 _ _ _ _ | exact LeO.none _ | refine LeO.ite ?_ ?_ | refine LeO.bind ?_ (fun _ => ?_))
set_option maxHeartbeats 8000000 in
set_option maxRecDepth 100000 in
theorem spec_l1Has.calls (k : Nat) (A0 : Option Addr) (c0 : Nat) (l0 : List Int) (a1 : Int) (r : Bool) (w : World) (hr0 : Kd.C (Kd.int .i64) w A0 l0.length l0) (hc0 : l0.length ≤ c0) (h : spec_l1Has.f k l0 a1 = some r) :
  Calls Try.prog 195 #[.slice A0 l0.length c0, .int .i64 a1] w fun e w' => e = .returned (.bool r) ∧ Drawn0 w w' := by
 have HR0 := Aside0.mk hr0
 have HC0 := Aside0.mk hc0
 clear hr0 hc0
 have H := h
 unfold spec_l1Has.f at H
 clear h
 have H' := Aside0.mk H
 clear H
 go_enter Try.func195, Try.ntmps195
 go_wp2
 go_loopg [9] k (fun kq v9 w' => ∃ (x9_1 : Int), v9 = .int .i64 x9_1 ∧ Aside0 (spec_l1Has.l0 kq a1 l0 (l0.length : Int) x9_1 = some r) ∧ Aside0 (kq ≤ k) ∧ Drawn0 w w')
 case atStart => exact ⟨(0), eqd, H', ⟨Nat.le_refl _⟩, by repeat (first | exact Drawn0.refl _ | apply Drawn0.step)⟩
 case round =>
  clear H'
  try clear c1
  try clear p2
  obtain ⟨x9_1, rfl, HA, HK1, ⟨m1, rfl⟩⟩ := hrel
  cases gk with
  | zero => exact absurd HA.out (by simp [spec_l1Has.l0])
  | succ k1 =>
   have H := HA.out
   clear HA
   simp only [spec_l1Has.l0] at H
   by_cases c3 : x9_1 < (l0.length : Int)
   ·rw [if_pos c3] at H
    have c3b0 : decide (x9_1 < (l0.length : Int)) = true := decide_eq_true c3
    clear c3
    by_cases c4 : 0 ≤ x9_1
    ·rw [if_pos c4] at H
     have c4b0 : decide (0 ≤ x9_1) = true := decide_eq_true c4
     clear c4
     by_cases c5 : x9_1 < (l0.length : Int)
     ·rw [if_pos c5] at H
      have c5b0 : decide (x9_1 < (l0.length : Int)) = true := decide_eq_true c5
      clear c5
      by_cases c6 : (rd l0 x9_1) = a1
      ·rw [if_pos c6] at H
       have c6b0 : ((rd l0 x9_1) == a1) = true := beq_iff_eq.mpr c6
       have c6b1 : ((rd l0 x9_1) != a1) = false := bne_eq_false_iff_eq.mpr c6
       clear c6
       obtain rfl := Option.some.inj H
       have p416 : 0 ≤ (x9_1 : Int) := ofd
       have q416 : x9_1 < (l0.length : Int) := ofd
       obtain ⟨ad416, e416, hx416_0⟩ := Kd.at_int HR0.out x9_1 p416 q416
       cases e416
       replace p416 := eq_true p416
       replace q416 := eq_true q416
       go_wp2
       go_ret
       exact ⟨by first | rfl | (simp; done) | (simp [*]; done), by repeat (first | exact Drawn0.refl _ | apply Drawn0.step)⟩
      ·rw [if_neg c6] at H
       have c6b0 : ((rd l0 x9_1) == a1) = false := beq_eq_false_iff_ne.mpr c6
       have c6b1 : ((rd l0 x9_1) != a1) = true := bne_iff_ne.mpr c6
       have H' := Aside0.mk H
       clear H
       have p416 : 0 ≤ (x9_1 : Int) := ofd
       have q416 : x9_1 < (l0.length : Int) := ofd
       obtain ⟨ad416, e416, hx416_0⟩ := Kd.at_int HR0.out x9_1 p416 q416
       cases e416
       replace p416 := eq_true p416
       replace q416 := eq_true q416
       go_wp2
       go_roundg k1
       case measure => have := HK1.out; omega
       case rel => exact ⟨(wrap64 (x9_1 + 1)), eqd, H', ⟨by have := HK1.out; omega⟩, by repeat (first | exact Drawn0.refl _ | apply Drawn0.step)⟩
     ·rw [if_neg c5] at H
      exact absurd H (by simp)
    ·rw [if_neg c4] at H
     exact absurd H (by simp)
   ·rw [if_neg c3] at H
    have c3b0 : decide (x9_1 < (l0.length : Int)) = false := decide_eq_false c3
    clear c3
    obtain rfl := Option.some.inj H
    go_wp2
    go_ret
    exact ⟨by first | rfl | (simp; done) | (simp [*]; done), by repeat (first | exact Drawn0.refl _ | apply Drawn0.step)⟩

noncomputable def spec_l1Has.L0 (x1 : Int) (x7 : List Int) (x8 : Int) (x9 : Int) : Option (Bool) := lim fun k => spec_l1Has.l0 k x1 x7 x8 x9
theorem spec_l1Has.L0_lim (x1 : Int) (x7 : List Int) (x8 : Int) (x9 : Int) : Lim (fun k => spec_l1Has.l0 k x1 x7 x8 x9) (spec_l1Has.L0 x1 x7 x8 x9) := Lim.of fun k => (spec_l1Has.mono_l k) x1 x7 x8 x9
noncomputable def spec_l1Has.F (l0 : List Int) (a1 : Int) : Option (Bool) := lim fun k => spec_l1Has.f k l0 a1
theorem spec_l1Has.F_lim (l0 : List Int) (a1 : Int) : Lim (fun k => spec_l1Has.f k l0 a1) (spec_l1Has.F l0 a1) := Lim.of fun k => spec_l1Has.mono l0 a1 k
theorem spec_l1Has.L0_eq (x1 : Int) (x7 : List Int) (x8 : Int) (x9 : Int) : spec_l1Has.L0 x1 x7 x8 x9 = (if x9 < x8 then (if 0 ≤ x9 then (if x9 < (x7.length : Int) then (if (rd x7 x9) = x1 then (some true) else (spec_l1Has.L0 x1 x7 x8 (wrap64 (x9 + 1)))) else (none)) else (none)) else (some false)) :=
 Lim.step (f := fun k => spec_l1Has.l0 (k + 1) x1 x7 x8 x9) (spec_l1Has.L0_lim x1 x7 x8 x9) (fun _ => rfl) (by
  simp only [spec_l1Has.l0]
  repeat' (first | (with_reducible first | exact Lim.const _ | exact spec_l1Has.L0_lim _ _ _ _ | refine Lim.ite ?_ ?_ | refine Lim.bind ?_ (fun _ => ?_))))
theorem spec_l1Has.F_eq (l0 : List Int) (a1 : Int) : spec_l1Has.F l0 a1 = (spec_l1Has.L0 a1 l0 (l0.length : Int) 0) :=
 Lim.unique (spec_l1Has.F_lim l0 a1) (by
  unfold spec_l1Has.f
  repeat' (first | (with_reducible first | exact Lim.const _ | exact spec_l1Has.L0_lim _ _ _ _ | refine Lim.ite ?_ ?_ | refine Lim.bind ?_ (fun _ => ?_))))

end Go.Proofs.Ytaohgllnoomaeaa.Fn
namespace Go.Proofs.Ytaohgllnoomaeaa.Fn
open Go.RowKit Go.Proofs.YtaohgllnoomaeaaW.PrintWords Go.Proofs.YtaohgllnoomaeaaW.PrintLast Go.Proofs.YtaohgllnoomaeaaW.PrintMore
attribute [local go_sem] max2_int min2_int max_two min_two max_three min_three max_four min_four   -- for this text's walks alone
set_option linter.unusedVariables false
set_option linter.unusedSimpArgs false

/-! ### spec_roNumbers: function 178 -/
def spec_roNumbers.l0 : Nat → List Int → List Int → Int → Option (List Int)
 | 0, _, _, _ => none
 | k + 1, x0, x3, x4 => if x4 ≤ 20 then ((spec_l1Has.f k x0 x4).bind fun t550 => (if t550 = true then (if x3.length < 17592186044416 then (spec_roNumbers.l0 k x0 (x3 ++ [x4]) (wrap64 (x4 + 1))) else (none)) else (spec_roNumbers.l0 k x0 x3 (wrap64 (x4 + 1))))) else (some x3)
def spec_roNumbers.f (k : Nat) (l0 : List Int) : Option (List Int) := spec_roNumbers.l0 k l0 ([] : List Int) 1
theorem spec_roNumbers.mono_l : ∀ k, (∀ y0 y1 y2, LeO (spec_roNumbers.l0 k y0 y1 y2) (spec_roNumbers.l0 (k + 1) y0 y1 y2))
 | 0 => fun _ _ _ r h => by simp [spec_roNumbers.l0] at h
 | k + 1 => by
  have ih0 := spec_roNumbers.mono_l k
  ·intro y0 y1 y2
   unfold spec_roNumbers.l0
   repeat' (first | (with_reducible first | exact ih0 _ _ _ | exact spec_l1Has.mono _ _ _ | exact LeO.refl _ | exact LeO.none _ | refine LeO.ite ?_ ?_ | refine LeO.bind ?_ (fun _ => ?_)) | exact ih0 _ _ _ | exact spec_l1Has.mono _ _ _ | exact LeO.none _ | refine LeO.ite ?_ ?_ | refine LeO.bind ?_ (fun _ => ?_))
theorem spec_roNumbers.mono : ∀ a0 k, LeO (spec_roNumbers.f k a0) (spec_roNumbers.f (k + 1) a0) := by
 intro a0 k
 have ih0 := spec_roNumbers.mono_l k
 unfold spec_roNumbers.f
 repeat' (first | (with_reducible first | exact ih0 _ _ _ | exact LeO.refl _ | exact LeO.none _ | refine LeO.ite ?_ ?_ | refine LeO.bind ?_ (fun _ => ?_)) | exact ih0 _ _ _ | exact LeO.none _ | refine LeO.ite ?_ ?_ | refine LeO.bind ?_ (fun _ => ?_))
set_option maxHeartbeats 8000000 in
set_option maxRecDepth 100000 in
theorem spec_roNumbers.calls (k : Nat) (A0 : Option Addr) (c0 : Nat) (l0 : List Int) (r : List Int) (w : World) (hr0 : Kd.C (Kd.int .i64) w A0 l0.length l0) (hc0 : l0.length ≤ c0) (h : spec_roNumbers.f k l0 = some r) :
  Calls Try.prog 178 #[.slice A0 l0.length c0] w fun e w' => ∃ v0_ : Value, e = .returned (v0_) ∧ Kd.R (Kd.int .i64) 3 w' w.heap.size (fun _ => True) v0_ r ∧ Below w.heap.size w w' := by
 have HR0 := Aside0.mk hr0
 have HC0 := Aside0.mk hc0
 clear hr0 hc0
 have HB := Aside0.mk (Below.refl w.heap.size w)
 have H := h
 unfold spec_roNumbers.f at H
 clear h
 have H' := Aside0.mk H
 clear H
 go_enter Try.func178, Try.ntmps178
 go_wp2
 go_loopg [3, 4] k (fun kq v3 v4 w' => ∃ (x3_1 : List Int) (x4_1 : Int), v4 = .int .i64 x4_1 ∧ Aside0 (spec_roNumbers.l0 kq l0 x3_1 x4_1 = some r) ∧ Aside0 (kq ≤ k) ∧ Aside0 (Kd.R (Kd.int .i64) 3 w' w.heap.size (fun _ => True) v3 x3_1) ∧ Aside0 (Below w.heap.size w w'))
 case atStart => exact ⟨(([] : List Int)), (1), eqd, H', ⟨Nat.le_refl _⟩, ⟨by first | exact Kd.R_nil _ _ _ _ _ | exact Kd.N_nil _ _ _ _ _ | exact Kd.V_nil _ _ _ _ _ | exact Kd.Q_nil _ _ _ _ _ | exact Kd.S_nil _ _ _ _ _⟩, ⟨atB HB⟩⟩
 case round =>
  clear H'
  try clear c1
  obtain ⟨x3_1, x4_1, rfl, HA, HK1, HO_3, HB⟩ := hrel
  cases gk with
  | zero => exact absurd HA.out (by simp [spec_roNumbers.l0])
  | succ k1 =>
   have H := HA.out
   clear HA
   simp only [spec_roNumbers.l0] at H
   by_cases c2 : x4_1 ≤ 20
   ·rw [if_pos c2] at H
    have c2b0 : decide (x4_1 ≤ 20) = true := decide_eq_true c2
    clear c2
    replace H := Option.bind_eq_some_iff.mp H
    obtain ⟨t550, A30, H⟩ := H
    replace H : (if t550 = true then (if x3_1.length < 17592186044416 then (spec_roNumbers.l0 k1 l0 (x3_1 ++ [x4_1]) (wrap64 (x4_1 + 1))) else (none)) else (spec_roNumbers.l0 k1 l0 x3_1 (wrap64 (x4_1 + 1)))) = some r := H
    have A3 := Aside0.mk A30
    clear A30
    by_cases c4 : t550 = true
    ·subst c4
     have H1 : (if x3_1.length < 17592186044416 then (spec_roNumbers.l0 k1 l0 (x3_1 ++ [x4_1]) (wrap64 (x4_1 + 1))) else (none)) = some r := by rw [if_pos rfl] at H; exact H
     clear H
     have H := H1
     clear H1
     by_cases c5 : x3_1.length < 17592186044416
     ·rw [if_pos c5] at H
      have LMc5 := Aside0.mk c5
      clear c5
      obtain ⟨y551, hy551⟩ : ∃ y_ : List Int, y_ = (x3_1 ++ [x4_1]) := ⟨_, rfl⟩
      replace H : (spec_roNumbers.l0 k1 l0 y551 (wrap64 (x4_1 + 1))) = some r := by first | (rw [hy551]; with_reducible exact H) | (have H2_ := (Option.bind_some _ _).symm.trans H; rw [hy551]; with_reducible exact H2_) | (have H2_ := (Option.bind_some _ _).symm.trans H; with_reducible exact H2_) | with_reducible exact H | (rw [hy551]; exact H) | exact H
      have Ny551 := Aside0.mk hy551
      clear hy551
      have H' := Aside0.mk H
      clear H
      go_wp2_with (first | ((with_reducible refine gate_callee (f := 195) rfl ?_); refine goesA (some 11) Try.func195 #[.slice A0 l0.length c0, .int .i64 x4_1] ?_; (with_reducible refine (spec_l1Has.calls k1 _ _ l0 x4_1 true _ ?side1 ?side2 A3.out).mono ?_); (case side1 => repeat (first | exact (Kd.C_below HR0.out HB.out) | (with_reducible refine Kd.C_alloc ?_ _) | (with_reducible refine Kd.C_drewN ?_ _) | (with_reducible refine Kd.C_drew ?_))); (case side2 => exact HC0.out); rintro e w' ⟨rfl, ⟨nd, rfl⟩⟩; refine ⟨_, rfl, ?_⟩) | ((with_reducible refine gate_builtin (b := .append) (xs := #[.tmp 12, .tmp 14]) rfl ?_); at_builtin; refine Kd.R_append (Kd.int .i64) (w0 := w) w.heap.size rfl (.tmp 12) (.tmp 14) 31 3 (.int .i64 0) 8 rfl Try.underlying31 info3 rfl (by decide) (by omega) u3 x3_1 x4_1 [.int .i64 x4_1] (fun _ => True) (fun _ => False) rfl rfl ?aP (fun _ hk => hk.elim) ?aF ?aO ?aB ?aS ?aL ?_; (case aP => exact rfl); (case aB => exact (atB HB)); (case aF => exact (fun _ _ => trivial)); (case aO => exact (atR HO_3)); (case aS => exact (szB HB)); (case aL => have := LMc5.out; omega); intro v552 w6 ho hb hg hat; rw [← Ny551.out] at ho; have HO553 := Aside0.mk (ho); replace HB := Aside0.mk (hb); clear HO_3; clear ho hb hg hat))
      go_roundg k1
      case measure => have := HK1.out; omega
      case rel => exact ⟨(y551), (wrap64 (x4_1 + 1)), eqd, H', ⟨by have := HK1.out; omega⟩, ⟨atR HO553⟩, ⟨atB HB⟩⟩
     ·rw [if_neg c5] at H
      exact absurd H (by simp)
    ·replace c4 := Bool.eq_false_iff.mpr c4
     subst c4
     have H1 : (spec_roNumbers.l0 k1 l0 x3_1 (wrap64 (x4_1 + 1))) = some r := by rw [if_neg (show ¬ (false = true) by decide)] at H; exact H
     clear H
     have H := H1
     clear H1
     have H' := Aside0.mk H
     clear H
     go_wp2_with (first | ((with_reducible refine gate_callee (f := 195) rfl ?_); refine goesA (some 11) Try.func195 #[.slice A0 l0.length c0, .int .i64 x4_1] ?_; (with_reducible refine (spec_l1Has.calls k1 _ _ l0 x4_1 false _ ?side1 ?side2 A3.out).mono ?_); (case side1 => repeat (first | exact (Kd.C_below HR0.out HB.out) | (with_reducible refine Kd.C_alloc ?_ _) | (with_reducible refine Kd.C_drewN ?_ _) | (with_reducible refine Kd.C_drew ?_))); (case side2 => exact HC0.out); rintro e w' ⟨rfl, ⟨nd, rfl⟩⟩; refine ⟨_, rfl, ?_⟩))
     go_roundg k1
     case measure => have := HK1.out; omega
     case rel => exact ⟨(x3_1), (wrap64 (x4_1 + 1)), eqd, H', ⟨by have := HK1.out; omega⟩, ⟨atR HO_3⟩, ⟨atB HB⟩⟩
   ·rw [if_neg c2] at H
    have c2b0 : decide (x4_1 ≤ 20) = false := decide_eq_false c2
    clear c2
    obtain rfl := Option.some.inj H
    go_wp2
    go_ret
    exact ⟨_, eqr, atR HO_3, atB HB⟩

noncomputable def spec_roNumbers.L0 (x0 : List Int) (x3 : List Int) (x4 : Int) : Option (List Int) := lim fun k => spec_roNumbers.l0 k x0 x3 x4
theorem spec_roNumbers.L0_lim (x0 : List Int) (x3 : List Int) (x4 : Int) : Lim (fun k => spec_roNumbers.l0 k x0 x3 x4) (spec_roNumbers.L0 x0 x3 x4) := Lim.of fun k => (spec_roNumbers.mono_l k) x0 x3 x4
noncomputable def spec_roNumbers.F (l0 : List Int) : Option (List Int) := lim fun k => spec_roNumbers.f k l0
theorem spec_roNumbers.F_lim (l0 : List Int) : Lim (fun k => spec_roNumbers.f k l0) (spec_roNumbers.F l0) := Lim.of fun k => spec_roNumbers.mono l0 k
theorem spec_roNumbers.L0_eq (x0 : List Int) (x3 : List Int) (x4 : Int) : spec_roNumbers.L0 x0 x3 x4 = (if x4 ≤ 20 then ((spec_l1Has.F x0 x4).bind fun t550 => (if t550 = true then (if x3.length < 17592186044416 then (spec_roNumbers.L0 x0 (x3 ++ [x4]) (wrap64 (x4 + 1))) else (none)) else (spec_roNumbers.L0 x0 x3 (wrap64 (x4 + 1))))) else (some x3)) :=
 Lim.step (f := fun k => spec_roNumbers.l0 (k + 1) x0 x3 x4) (spec_roNumbers.L0_lim x0 x3 x4) (fun _ => rfl) (by
  simp only [spec_roNumbers.l0]
  repeat' (first | (with_reducible first | exact Lim.const _ | exact spec_l1Has.F_lim _ _ | exact spec_roNumbers.L0_lim _ _ _ | refine Lim.ite ?_ ?_ | refine Lim.bind ?_ (fun _ => ?_))))
theorem spec_roNumbers.F_eq (l0 : List Int) : spec_roNumbers.F l0 = (spec_roNumbers.L0 l0 ([] : List Int) 1) :=
 Lim.unique (spec_roNumbers.F_lim l0) (by
  unfold spec_roNumbers.f
  repeat' (first | (with_reducible first | exact Lim.const _ | exact spec_roNumbers.L0_lim _ _ _ | refine Lim.ite ?_ ?_ | refine Lim.bind ?_ (fun _ => ?_))))

end Go.Proofs.Ytaohgllnoomaeaa.Fn
namespace Go.Proofs.Ytaohgllnoomaeaa.Fn
open Go.RowKit Go.Proofs.YtaohgllnoomaeaaW.PrintWords Go.Proofs.YtaohgllnoomaeaaW.PrintLast Go.Proofs.YtaohgllnoomaeaaW.PrintMore
attribute [local go_sem] max2_int min2_int max_two min_two max_three min_three max_four min_four   -- for this text's walks alone
set_option linter.unusedVariables false
set_option linter.unusedSimpArgs false

/-! ### spec_roPlaces: function 179 -/
def spec_roPlaces.l0 : Nat → Int → List Int → List Int → Int → Int → Option (List Int)
 | 0, _, _, _, _, _ => none
 | k + 1, x1, x5, x8, x9, x10 => if x10 < x9 then (if 0 ≤ x10 then (if x10 < (x8.length : Int) then (if (rd x8 x10) = x1 then (if x5.length < 17592186044416 then (spec_roPlaces.l0 k x1 (x5 ++ [x10]) x8 x9 (wrap64 (x10 + 1))) else (none)) else (spec_roPlaces.l0 k x1 x5 x8 x9 (wrap64 (x10 + 1)))) else (none)) else (none)) else (some x5)
def spec_roPlaces.f (k : Nat) (l0 : List Int) (a1 : Int) : Option (List Int) := spec_roPlaces.l0 k a1 ([] : List Int) l0 (l0.length : Int) 0
theorem spec_roPlaces.mono_l : ∀ k, (∀ y0 y1 y2 y3 y4, LeO (spec_roPlaces.l0 k y0 y1 y2 y3 y4) (spec_roPlaces.l0 (k + 1) y0 y1 y2 y3 y4))
 | 0 => fun _ _ _ _ _ r h => by simp [spec_roPlaces.l0] at h
 | k + 1 => by
  have ih0 := spec_roPlaces.mono_l k
  ·intro y0 y1 y2 y3 y4
   unfold spec_roPlaces.l0
   repeat' (first | (with_reducible first | exact ih0 _ _ _ _ _ | exact LeO.refl _ | exact LeO.none _ | refine LeO.ite ?_ ?_ | refine LeO.bind ?_ (fun _ => ?_)) | exact ih0 _ _ _ _ _ | exact LeO.none _ | refine LeO.ite ?_ ?_ | refine LeO.bind ?_ (fun _ => ?_))
theorem spec_roPlaces.mono : ∀ a0 a1 k, LeO (spec_roPlaces.f k a0 a1) (spec_roPlaces.f (k + 1) a0 a1) := by
 intro a0 a1 k
 have ih0 := spec_roPlaces.mono_l k
 unfold spec_roPlaces.f
 repeat' (first | (with_reducible first | exact ih0 _ _ _ _ _ | exact LeO.refl _ | exact LeO.none _ | refine LeO.ite ?_ ?_ | refine LeO.bind ?_ (fun _ => ?_)) | exact ih0 _ _ _ _ _ | exact LeO.none _ | refine LeO.ite ?_ ?_ | refine LeO.bind ?_ (fun _ => ?_))
set_option maxHeartbeats 8000000 in
set_option maxRecDepth 100000 in
theorem spec_roPlaces.calls (k : Nat) (A0 : Option Addr) (c0 : Nat) (l0 : List Int) (a1 : Int) (r : List Int) (w : World) (hr0 : Kd.C (Kd.int .i64) w A0 l0.length l0) (hc0 : l0.length ≤ c0) (h : spec_roPlaces.f k l0 a1 = some r) :
  Calls Try.prog 179 #[.slice A0 l0.length c0, .int .i64 a1] w fun e w' => ∃ v0_ : Value, e = .returned (v0_) ∧ Kd.R (Kd.int .i64) 3 w' w.heap.size (fun _ => True) v0_ r ∧ Below w.heap.size w w' := by
 have HR0 := Aside0.mk hr0
 have HC0 := Aside0.mk hc0
 clear hr0 hc0
 have HB := Aside0.mk (Below.refl w.heap.size w)
 have H := h
 unfold spec_roPlaces.f at H
 clear h
 have H' := Aside0.mk H
 clear H
 go_enter Try.func179, Try.ntmps179
 go_wp2
 go_loopg [5, 10] k (fun kq v5 v10 w' => ∃ (x5_1 : List Int) (x10_1 : Int), v10 = .int .i64 x10_1 ∧ Aside0 (spec_roPlaces.l0 kq a1 x5_1 l0 (l0.length : Int) x10_1 = some r) ∧ Aside0 (kq ≤ k) ∧ Aside0 (Kd.R (Kd.int .i64) 3 w' w.heap.size (fun _ => True) v5 x5_1) ∧ Aside0 (Below w.heap.size w w'))
 case atStart => exact ⟨(([] : List Int)), (0), eqd, H', ⟨Nat.le_refl _⟩, ⟨by first | exact Kd.R_nil _ _ _ _ _ | exact Kd.N_nil _ _ _ _ _ | exact Kd.V_nil _ _ _ _ _ | exact Kd.Q_nil _ _ _ _ _ | exact Kd.S_nil _ _ _ _ _⟩, ⟨atB HB⟩⟩
 case round =>
  clear H'
  try clear c1
  try clear p2
  obtain ⟨x5_1, x10_1, rfl, HA, HK1, HO_5, HB⟩ := hrel
  cases gk with
  | zero => exact absurd HA.out (by simp [spec_roPlaces.l0])
  | succ k1 =>
   have H := HA.out
   clear HA
   simp only [spec_roPlaces.l0] at H
   by_cases c3 : x10_1 < (l0.length : Int)
   ·rw [if_pos c3] at H
    have c3b0 : decide (x10_1 < (l0.length : Int)) = true := decide_eq_true c3
    clear c3
    by_cases c4 : 0 ≤ x10_1
    ·rw [if_pos c4] at H
     have c4b0 : decide (0 ≤ x10_1) = true := decide_eq_true c4
     clear c4
     by_cases c5 : x10_1 < (l0.length : Int)
     ·rw [if_pos c5] at H
      have c5b0 : decide (x10_1 < (l0.length : Int)) = true := decide_eq_true c5
      clear c5
      by_cases c6 : (rd l0 x10_1) = a1
      ·rw [if_pos c6] at H
       have c6b0 : ((rd l0 x10_1) == a1) = true := beq_iff_eq.mpr c6
       have c6b1 : ((rd l0 x10_1) != a1) = false := bne_eq_false_iff_eq.mpr c6
       clear c6
       by_cases c7 : x5_1.length < 17592186044416
       ·rw [if_pos c7] at H
        have LMc7 := Aside0.mk c7
        clear c7
        obtain ⟨y542, hy542⟩ : ∃ y_ : List Int, y_ = (x5_1 ++ [x10_1]) := ⟨_, rfl⟩
        replace H : (spec_roPlaces.l0 k1 a1 y542 l0 (l0.length : Int) (wrap64 (x10_1 + 1))) = some r := by first | (rw [hy542]; with_reducible exact H) | (have H2_ := (Option.bind_some _ _).symm.trans H; rw [hy542]; with_reducible exact H2_) | (have H2_ := (Option.bind_some _ _).symm.trans H; with_reducible exact H2_) | with_reducible exact H | (rw [hy542]; exact H) | exact H
        have Ny542 := Aside0.mk hy542
        clear hy542
        have H' := Aside0.mk H
        clear H
        have p541 : 0 ≤ (x10_1 : Int) := ofd
        have q541 : x10_1 < (l0.length : Int) := ofd
        obtain ⟨ad541, e541, hx541_0⟩ := Kd.at_int HR0.out x10_1 p541 q541
        cases e541
        replace hx541_0 := (HB.out.cell (World.block_lt_of_cell? w _ hx541_0)).trans hx541_0
        replace p541 := eq_true p541
        replace q541 := eq_true q541
        go_wp2_with (first | ((with_reducible refine gate_builtin (b := .append) (xs := #[.tmp 18, .tmp 20]) rfl ?_); at_builtin; refine Kd.R_append (Kd.int .i64) (w0 := w) w.heap.size rfl (.tmp 18) (.tmp 20) 31 3 (.int .i64 0) 8 rfl Try.underlying31 info3 rfl (by decide) (by omega) u5 x5_1 x10_1 [.int .i64 x10_1] (fun _ => True) (fun _ => False) rfl rfl ?aP (fun _ hk => hk.elim) ?aF ?aO ?aB ?aS ?aL ?_; (case aP => exact rfl); (case aB => exact (atB HB)); (case aF => exact (fun _ _ => trivial)); (case aO => exact (atR HO_5)); (case aS => exact (szB HB)); (case aL => have := LMc7.out; omega); intro v543 w8 ho hb hg hat; rw [← Ny542.out] at ho; have HO544 := Aside0.mk (ho); replace HB := Aside0.mk (hb); clear HO_5; clear ho hb hg hat))
        go_roundg k1
        case measure => have := HK1.out; omega
        case rel => exact ⟨(y542), (wrap64 (x10_1 + 1)), eqd, H', ⟨by have := HK1.out; omega⟩, ⟨atR HO544⟩, ⟨atB HB⟩⟩
       ·rw [if_neg c7] at H
        exact absurd H (by simp)
      ·rw [if_neg c6] at H
       have c6b0 : ((rd l0 x10_1) == a1) = false := beq_eq_false_iff_ne.mpr c6
       have c6b1 : ((rd l0 x10_1) != a1) = true := bne_iff_ne.mpr c6
       have H' := Aside0.mk H
       clear H
       have p541 : 0 ≤ (x10_1 : Int) := ofd
       have q541 : x10_1 < (l0.length : Int) := ofd
       obtain ⟨ad541, e541, hx541_0⟩ := Kd.at_int HR0.out x10_1 p541 q541
       cases e541
       replace hx541_0 := (HB.out.cell (World.block_lt_of_cell? w _ hx541_0)).trans hx541_0
       replace p541 := eq_true p541
       replace q541 := eq_true q541
       go_wp2
       go_roundg k1
       case measure => have := HK1.out; omega
       case rel => exact ⟨(x5_1), (wrap64 (x10_1 + 1)), eqd, H', ⟨by have := HK1.out; omega⟩, ⟨atR HO_5⟩, ⟨atB HB⟩⟩
     ·rw [if_neg c5] at H
      exact absurd H (by simp)
    ·rw [if_neg c4] at H
     exact absurd H (by simp)
   ·rw [if_neg c3] at H
    have c3b0 : decide (x10_1 < (l0.length : Int)) = false := decide_eq_false c3
    clear c3
    obtain rfl := Option.some.inj H
    go_wp2
    go_ret
    exact ⟨_, eqr, atR HO_5, atB HB⟩

noncomputable def spec_roPlaces.L0 (x1 : Int) (x5 : List Int) (x8 : List Int) (x9 : Int) (x10 : Int) : Option (List Int) := lim fun k => spec_roPlaces.l0 k x1 x5 x8 x9 x10
theorem spec_roPlaces.L0_lim (x1 : Int) (x5 : List Int) (x8 : List Int) (x9 : Int) (x10 : Int) : Lim (fun k => spec_roPlaces.l0 k x1 x5 x8 x9 x10) (spec_roPlaces.L0 x1 x5 x8 x9 x10) := Lim.of fun k => (spec_roPlaces.mono_l k) x1 x5 x8 x9 x10
noncomputable def spec_roPlaces.F (l0 : List Int) (a1 : Int) : Option (List Int) := lim fun k => spec_roPlaces.f k l0 a1
theorem spec_roPlaces.F_lim (l0 : List Int) (a1 : Int) : Lim (fun k => spec_roPlaces.f k l0 a1) (spec_roPlaces.F l0 a1) := Lim.of fun k => spec_roPlaces.mono l0 a1 k
theorem spec_roPlaces.L0_eq (x1 : Int) (x5 : List Int) (x8 : List Int) (x9 : Int) (x10 : Int) : spec_roPlaces.L0 x1 x5 x8 x9 x10 = (if x10 < x9 then (if 0 ≤ x10 then (if x10 < (x8.length : Int) then (if (rd x8 x10) = x1 then (if x5.length < 17592186044416 then (spec_roPlaces.L0 x1 (x5 ++ [x10]) x8 x9 (wrap64 (x10 + 1))) else (none)) else (spec_roPlaces.L0 x1 x5 x8 x9 (wrap64 (x10 + 1)))) else (none)) else (none)) else (some x5)) :=
 Lim.step (f := fun k => spec_roPlaces.l0 (k + 1) x1 x5 x8 x9 x10) (spec_roPlaces.L0_lim x1 x5 x8 x9 x10) (fun _ => rfl) (by
  simp only [spec_roPlaces.l0]
  repeat' (first | (with_reducible first | exact Lim.const _ | exact spec_roPlaces.L0_lim _ _ _ _ _ | refine Lim.ite ?_ ?_ | refine Lim.bind ?_ (fun _ => ?_))))
theorem spec_roPlaces.F_eq (l0 : List Int) (a1 : Int) : spec_roPlaces.F l0 a1 = (spec_roPlaces.L0 a1 ([] : List Int) l0 (l0.length : Int) 0) :=
 Lim.unique (spec_roPlaces.F_lim l0 a1) (by
  unfold spec_roPlaces.f
  repeat' (first | (with_reducible first | exact Lim.const _ | exact spec_roPlaces.L0_lim _ _ _ _ _ | refine Lim.ite ?_ ?_ | refine Lim.bind ?_ (fun _ => ?_))))

end Go.Proofs.Ytaohgllnoomaeaa.Fn
namespace Go.Proofs.Ytaohgllnoomaeaa.Fn
open Go.RowKit Go.Proofs.YtaohgllnoomaeaaW.PrintWords Go.Proofs.YtaohgllnoomaeaaW.PrintLast Go.Proofs.YtaohgllnoomaeaaW.PrintMore
attribute [local go_sem] max2_int min2_int max_two min_two max_three min_three max_four min_four   -- for this text's walks alone
set_option linter.unusedVariables false
set_option linter.unusedSimpArgs false

/-! ### spec_roFits: function 193 -/
def spec_roFits.l0 : Nat → List Int → Int → List Int → Int → Int → Option (Bool)
 | 0, _, _, _, _, _ => none
 | k + 1, x0, x1, x9, x10, x11 => if x11 < x10 then (if 0 ≤ x11 then (if x11 < (x9.length : Int) then ((spec_roPlaces.f k x0 (rd x9 x11)).bind fun t595 => (if 1 < (t595.length : Int) then (if 0 < (t595.length : Int) then (if (wrap64 ((rd t595 1) - (rd t595 0))) = (wrap64 ((rd x9 x11) + x1)) then (spec_roFits.l0 k x0 x1 x9 x10 (wrap64 (x11 + 1))) else (some false)) else (none)) else (none))) else (none)) else (none)) else (some true)
def spec_roFits.f (k : Nat) (l0 : List Int) (a1 : Int) : Option (Bool) := (spec_roNumbers.f k l0).bind fun t591 => (spec_roFits.l0 k l0 a1 t591 (t591.length : Int) 0)
theorem spec_roFits.mono_l : ∀ k, (∀ y0 y1 y2 y3 y4, LeO (spec_roFits.l0 k y0 y1 y2 y3 y4) (spec_roFits.l0 (k + 1) y0 y1 y2 y3 y4))
 | 0 => fun _ _ _ _ _ r h => by simp [spec_roFits.l0] at h
 | k + 1 => by
  have ih0 := spec_roFits.mono_l k
  ·intro y0 y1 y2 y3 y4
   unfold spec_roFits.l0
   repeat' (first | (with_reducible first | exact ih0 _ _ _ _ _ | exact spec_roPlaces.mono _ _ _ | exact LeO.refl _ | exact LeO.none _ | refine LeO.ite ?_ ?_ | refine LeO.bind ?_ (fun _ => ?_)) | exact ih0 _ _ _ _ _ | exact spec_roPlaces.mono _ _ _ | exact LeO.none _ | refine LeO.ite ?_ ?_ | refine LeO.bind ?_ (fun _ => ?_))
theorem spec_roFits.mono : ∀ a0 a1 k, LeO (spec_roFits.f k a0 a1) (spec_roFits.f (k + 1) a0 a1) := by
 intro a0 a1 k
 have ih0 := spec_roFits.mono_l k
 unfold spec_roFits.f
 repeat' (first | (with_reducible first | exact ih0 _ _ _ _ _ | exact spec_roNumbers.mono _ _ | exact LeO.refl _ | exact LeO.none _ | refine LeO.ite ?_ ?_ | refine LeO.bind ?_ (fun _ => ?_)) | exact ih0 _ _ _ _ _ | exact spec_roNumbers.mono _ _ | exact LeO.none _ | refine LeO.ite ?_ ?_ | refine LeO.bind ?_ (fun _ => ?_))
set_option maxHeartbeats 8000000 in
set_option maxRecDepth 100000 in
theorem spec_roFits.calls (k : Nat) (A0 : Option Addr) (c0 : Nat) (l0 : List Int) (a1 : Int) (r : Bool) (w : World) (hr0 : Kd.C (Kd.int .i64) w A0 l0.length l0) (hc0 : l0.length ≤ c0) (h : spec_roFits.f k l0 a1 = some r) :
  Calls Try.prog 193 #[.slice A0 l0.length c0, .int .i64 a1] w fun e w' => e = .returned (.bool r) ∧ Below w.heap.size w w' := by
 have HR0 := Aside0.mk hr0
 have HC0 := Aside0.mk hc0
 clear hr0 hc0
 have HB := Aside0.mk (Below.refl w.heap.size w)
 have H := h
 unfold spec_roFits.f at H
 clear h
 replace H := Option.bind_eq_some_iff.mp H
 obtain ⟨t591, A30, H⟩ := H
 replace H : (spec_roFits.l0 k l0 a1 t591 (t591.length : Int) 0) = some r := H
 have A3 := Aside0.mk A30
 clear A30
 have H' := Aside0.mk H
 clear H
 go_enter Try.func193, Try.ntmps193
 go_wp2_with (first | (go_at_call 178; (with_reducible refine (spec_roNumbers.calls k _ _ l0 t591 _ ?side1 ?side2 A3.out).mono ?_); (case side1 => repeat (first | exact HR0.out | (with_reducible refine Kd.C_alloc ?_ _) | (with_reducible refine Kd.C_drewN ?_ _) | (with_reducible refine Kd.C_drew ?_))); (case side2 => exact HC0.out); rintro e w4 ⟨v592, rfl, ho0, hb⟩; have HO593 := lowR ho0 HB; replace HB := upB HB hb; (try clear hb); (try clear hb2); (try clear hk); (try clear hi); (try clear ho0); obtain ⟨Ao5, co5, eo5⟩ := Kd.R_slice HO593.out; subst eo5))
 repeat (go_quiet (first | (go_at_call 178; (with_reducible refine (spec_roNumbers.calls k _ _ l0 t591 _ ?side1 ?side2 A3.out).mono ?_); (case side1 => repeat (first | exact HR0.out | (with_reducible refine Kd.C_alloc ?_ _) | (with_reducible refine Kd.C_drewN ?_ _) | (with_reducible refine Kd.C_drew ?_))); (case side2 => exact HC0.out); rintro e w4 ⟨v592, rfl, ho0, hb⟩; have HO593 := lowR ho0 HB; replace HB := upB HB hb; (try clear hb); (try clear hb2); (try clear hk); (try clear hi); (try clear ho0); obtain ⟨Ao5, co5, eo5⟩ := Kd.R_slice HO593.out; subst eo5)); try go_wp2_with (first | (go_at_call 178; (with_reducible refine (spec_roNumbers.calls k _ _ l0 t591 _ ?side1 ?side2 A3.out).mono ?_); (case side1 => repeat (first | exact HR0.out | (with_reducible refine Kd.C_alloc ?_ _) | (with_reducible refine Kd.C_drewN ?_ _) | (with_reducible refine Kd.C_drew ?_))); (case side2 => exact HC0.out); rintro e w4 ⟨v592, rfl, ho0, hb⟩; have HO593 := lowR ho0 HB; replace HB := upB HB hb; (try clear hb); (try clear hb2); (try clear hk); (try clear hi); (try clear ho0); obtain ⟨Ao5, co5, eo5⟩ := Kd.R_slice HO593.out; subst eo5)))
 go_loopg [11] k (fun kq v11 w' => ∃ (x11_1 : Int), v11 = .int .i64 x11_1 ∧ Aside0 (spec_roFits.l0 kq l0 a1 t591 (t591.length : Int) x11_1 = some r) ∧ Aside0 (kq ≤ k) ∧ Aside0 (Kd.R (Kd.int .i64) 3 w' w.heap.size (fun _ => True) (.slice Ao5 t591.length co5) t591) ∧ Aside0 (Below w.heap.size w w'))
 case atStart => exact ⟨(0), eqd, H', ⟨Nat.le_refl _⟩, ⟨atR HO593⟩, ⟨atB HB⟩⟩
 case round =>
  clear H'
  try clear c1
  try clear p2
  obtain ⟨x11_1, rfl, HA, HK1, HO_9, HB⟩ := hrel
  cases gk with
  | zero => exact absurd HA.out (by simp [spec_roFits.l0])
  | succ k1 =>
   have H := HA.out
   clear HA
   simp only [spec_roFits.l0] at H
   by_cases c6 : x11_1 < (t591.length : Int)
   ·rw [if_pos c6] at H
    have c6b0 : decide (x11_1 < (t591.length : Int)) = true := decide_eq_true c6
    clear c6
    by_cases c7 : 0 ≤ x11_1
    ·rw [if_pos c7] at H
     have c7b0 : decide (0 ≤ x11_1) = true := decide_eq_true c7
     clear c7
     by_cases c8 : x11_1 < (t591.length : Int)
     ·rw [if_pos c8] at H
      have c8b0 : decide (x11_1 < (t591.length : Int)) = true := decide_eq_true c8
      clear c8
      replace H := Option.bind_eq_some_iff.mp H
      obtain ⟨t595, A90, H⟩ := H
      replace H : (if 1 < (t595.length : Int) then (if 0 < (t595.length : Int) then (if (wrap64 ((rd t595 1) - (rd t595 0))) = (wrap64 ((rd t591 x11_1) + a1)) then (spec_roFits.l0 k1 l0 a1 t591 (t591.length : Int) (wrap64 (x11_1 + 1))) else (some false)) else (none)) else (none)) = some r := H
      have A9 := Aside0.mk A90
      clear A90
      by_cases c10 : 1 < (t595.length : Int)
      ·rw [if_pos c10] at H
       have c10b0 : decide (1 < (t595.length : Int)) = true := decide_eq_true c10
       have c10b1 : decide (1 < t595.length) = true := decide_eq_true (by omega)
       clear c10
       by_cases c11 : 0 < (t595.length : Int)
       ·rw [if_pos c11] at H
        have c11b0 : decide (0 < (t595.length : Int)) = true := decide_eq_true c11
        have c11b1 : decide (0 < t595.length) = true := decide_eq_true (by omega)
        clear c11
        by_cases c12 : (wrap64 ((rd t595 1) - (rd t595 0))) = (wrap64 ((rd t591 x11_1) + a1))
        ·rw [if_pos c12] at H
         have c12b0 : ((wrap64 ((rd t595 1) - (rd t595 0))) == (wrap64 ((rd t591 x11_1) + a1))) = true := beq_iff_eq.mpr c12
         have c12b1 : ((wrap64 ((rd t595 1) - (rd t595 0))) != (wrap64 ((rd t591 x11_1) + a1))) = false := bne_eq_false_iff_eq.mpr c12
         clear c12
         have H' := Aside0.mk H
         clear H
         have p594 : 0 ≤ (x11_1 : Int) := ofd
         have q594 : x11_1 < (t591.length : Int) := ofd
         obtain ⟨ad594, e594, hx594_0⟩ := Kd.at_int (Kd.R_reads' HO_9.out).2.2 x11_1 p594 q594
         cases e594
         replace p594 := eq_true p594
         replace q594 := eq_true q594
         go_wp2_with (first | (go_at_call 179; (with_reducible refine (spec_roPlaces.calls k1 _ _ l0 (rd t591 x11_1) t595 _ ?side1 ?side2 A9.out).mono ?_); (case side1 => repeat (first | exact (Kd.C_below HR0.out HB.out) | (with_reducible refine Kd.C_alloc ?_ _) | (with_reducible refine Kd.C_drewN ?_ _) | (with_reducible refine Kd.C_drew ?_))); (case side2 => exact HC0.out); rintro e w13 ⟨v596, rfl, ho0, hb⟩; have HO597 := Aside0.mk (Kd.R_lower (Kd.R_new' ho0 (ltR HO_9)) (szB HB)); replace HO_9 := eldRR HO_9 ho0 hb; replace HB := upB HB hb; (try clear hb); (try clear hb2); (try clear hk); (try clear hi); (try clear ho0); obtain ⟨Ao14, co14, eo14⟩ := Kd.R_slice HO597.out; subst eo14; have p598 : 0 ≤ (1 : Int) := (by omega); have q598 : 1 < (t595.length : Int) := ofd; obtain ⟨ad598, e598, hx598_0⟩ := Kd.at_int (Kd.R_reads' HO597.out).2.2 1 p598 q598; cases e598; (try simp only [show (1 : Int).toNat = 1 from rfl, Nat.reduceMul, Nat.reduceEqDiff, Go.Addr.add, ↓reduceIte] at hx598_0); have qi598 : (1 < t595.length) = True := eq_true (by omega); (try rw [show ((1 : Int)).toNat = 1 from rfl] at hx598_0); replace p598 := eq_true p598; replace q598 := eq_true q598; have p599 : 0 ≤ (0 : Int) := (by omega); have q599 : 0 < (t595.length : Int) := ofd; obtain ⟨ad599, e599, hx599_0⟩ := Kd.at_int (Kd.R_reads' HO597.out).2.2 0 p599 q599; obtain rfl : ad598 = ad599 := (by injection e599); have qi599 : (0 < t595.length) = True := eq_true (by omega); (try rw [show ((0 : Int)).toNat = 0 from rfl] at hx599_0); (try rw [Addr.add_zero'] at hx599_0); replace p599 := eq_true p599; replace q599 := eq_true q599))
         repeat (go_quiet (first | (go_at_call 179; (with_reducible refine (spec_roPlaces.calls k1 _ _ l0 (rd t591 x11_1) t595 _ ?side1 ?side2 A9.out).mono ?_); (case side1 => repeat (first | exact (Kd.C_below HR0.out HB.out) | (with_reducible refine Kd.C_alloc ?_ _) | (with_reducible refine Kd.C_drewN ?_ _) | (with_reducible refine Kd.C_drew ?_))); (case side2 => exact HC0.out); rintro e w13 ⟨v596, rfl, ho0, hb⟩; have HO597 := Aside0.mk (Kd.R_lower (Kd.R_new' ho0 (ltR HO_9)) (szB HB)); replace HO_9 := eldRR HO_9 ho0 hb; replace HB := upB HB hb; (try clear hb); (try clear hb2); (try clear hk); (try clear hi); (try clear ho0); obtain ⟨Ao14, co14, eo14⟩ := Kd.R_slice HO597.out; subst eo14; have p598 : 0 ≤ (1 : Int) := (by omega); have q598 : 1 < (t595.length : Int) := ofd; obtain ⟨ad598, e598, hx598_0⟩ := Kd.at_int (Kd.R_reads' HO597.out).2.2 1 p598 q598; cases e598; (try simp only [show (1 : Int).toNat = 1 from rfl, Nat.reduceMul, Nat.reduceEqDiff, Go.Addr.add, ↓reduceIte] at hx598_0); have qi598 : (1 < t595.length) = True := eq_true (by omega); (try rw [show ((1 : Int)).toNat = 1 from rfl] at hx598_0); replace p598 := eq_true p598; replace q598 := eq_true q598; have p599 : 0 ≤ (0 : Int) := (by omega); have q599 : 0 < (t595.length : Int) := ofd; obtain ⟨ad599, e599, hx599_0⟩ := Kd.at_int (Kd.R_reads' HO597.out).2.2 0 p599 q599; obtain rfl : ad598 = ad599 := (by injection e599); have qi599 : (0 < t595.length) = True := eq_true (by omega); (try rw [show ((0 : Int)).toNat = 0 from rfl] at hx599_0); (try rw [Addr.add_zero'] at hx599_0); replace p599 := eq_true p599; replace q599 := eq_true q599)); try go_wp2_with (first | (go_at_call 179; (with_reducible refine (spec_roPlaces.calls k1 _ _ l0 (rd t591 x11_1) t595 _ ?side1 ?side2 A9.out).mono ?_); (case side1 => repeat (first | exact (Kd.C_below HR0.out HB.out) | (with_reducible refine Kd.C_alloc ?_ _) | (with_reducible refine Kd.C_drewN ?_ _) | (with_reducible refine Kd.C_drew ?_))); (case side2 => exact HC0.out); rintro e w13 ⟨v596, rfl, ho0, hb⟩; have HO597 := Aside0.mk (Kd.R_lower (Kd.R_new' ho0 (ltR HO_9)) (szB HB)); replace HO_9 := eldRR HO_9 ho0 hb; replace HB := upB HB hb; (try clear hb); (try clear hb2); (try clear hk); (try clear hi); (try clear ho0); obtain ⟨Ao14, co14, eo14⟩ := Kd.R_slice HO597.out; subst eo14; have p598 : 0 ≤ (1 : Int) := (by omega); have q598 : 1 < (t595.length : Int) := ofd; obtain ⟨ad598, e598, hx598_0⟩ := Kd.at_int (Kd.R_reads' HO597.out).2.2 1 p598 q598; cases e598; (try simp only [show (1 : Int).toNat = 1 from rfl, Nat.reduceMul, Nat.reduceEqDiff, Go.Addr.add, ↓reduceIte] at hx598_0); have qi598 : (1 < t595.length) = True := eq_true (by omega); (try rw [show ((1 : Int)).toNat = 1 from rfl] at hx598_0); replace p598 := eq_true p598; replace q598 := eq_true q598; have p599 : 0 ≤ (0 : Int) := (by omega); have q599 : 0 < (t595.length : Int) := ofd; obtain ⟨ad599, e599, hx599_0⟩ := Kd.at_int (Kd.R_reads' HO597.out).2.2 0 p599 q599; obtain rfl : ad598 = ad599 := (by injection e599); have qi599 : (0 < t595.length) = True := eq_true (by omega); (try rw [show ((0 : Int)).toNat = 0 from rfl] at hx599_0); (try rw [Addr.add_zero'] at hx599_0); replace p599 := eq_true p599; replace q599 := eq_true q599)))
         go_roundg k1
         case measure => have := HK1.out; omega
         case rel => exact ⟨(wrap64 (x11_1 + 1)), eqd, H', ⟨by have := HK1.out; omega⟩, ⟨by (with_reducible repeat (first | apply Kd.R_alloc | apply Kd.R_drewN | apply Kd.R_drew)); exact Kd.R_mono HO_9.out (fun _ hk => trivial)⟩, ⟨atB HB⟩⟩
        ·rw [if_neg c12] at H
         have c12b0 : ((wrap64 ((rd t595 1) - (rd t595 0))) == (wrap64 ((rd t591 x11_1) + a1))) = false := beq_eq_false_iff_ne.mpr c12
         have c12b1 : ((wrap64 ((rd t595 1) - (rd t595 0))) != (wrap64 ((rd t591 x11_1) + a1))) = true := bne_iff_ne.mpr c12
         obtain rfl := Option.some.inj H
         have p594 : 0 ≤ (x11_1 : Int) := ofd
         have q594 : x11_1 < (t591.length : Int) := ofd
         obtain ⟨ad594, e594, hx594_0⟩ := Kd.at_int (Kd.R_reads' HO_9.out).2.2 x11_1 p594 q594
         cases e594
         replace p594 := eq_true p594
         replace q594 := eq_true q594
         go_wp2_with (first | (go_at_call 179; (with_reducible refine (spec_roPlaces.calls k1 _ _ l0 (rd t591 x11_1) t595 _ ?side1 ?side2 A9.out).mono ?_); (case side1 => repeat (first | exact (Kd.C_below HR0.out HB.out) | (with_reducible refine Kd.C_alloc ?_ _) | (with_reducible refine Kd.C_drewN ?_ _) | (with_reducible refine Kd.C_drew ?_))); (case side2 => exact HC0.out); rintro e w15 ⟨v596, rfl, ho0, hb⟩; have HO597 := Aside0.mk (Kd.R_lower (Kd.R_new' ho0 (ltR HO_9)) (szB HB)); replace HO_9 := eldRR HO_9 ho0 hb; replace HB := upB HB hb; (try clear hb); (try clear hb2); (try clear hk); (try clear hi); (try clear ho0); obtain ⟨Ao16, co16, eo16⟩ := Kd.R_slice HO597.out; subst eo16; have p598 : 0 ≤ (1 : Int) := (by omega); have q598 : 1 < (t595.length : Int) := ofd; obtain ⟨ad598, e598, hx598_0⟩ := Kd.at_int (Kd.R_reads' HO597.out).2.2 1 p598 q598; cases e598; (try simp only [show (1 : Int).toNat = 1 from rfl, Nat.reduceMul, Nat.reduceEqDiff, Go.Addr.add, ↓reduceIte] at hx598_0); have qi598 : (1 < t595.length) = True := eq_true (by omega); (try rw [show ((1 : Int)).toNat = 1 from rfl] at hx598_0); replace p598 := eq_true p598; replace q598 := eq_true q598; have p599 : 0 ≤ (0 : Int) := (by omega); have q599 : 0 < (t595.length : Int) := ofd; obtain ⟨ad599, e599, hx599_0⟩ := Kd.at_int (Kd.R_reads' HO597.out).2.2 0 p599 q599; obtain rfl : ad598 = ad599 := (by injection e599); have qi599 : (0 < t595.length) = True := eq_true (by omega); (try rw [show ((0 : Int)).toNat = 0 from rfl] at hx599_0); (try rw [Addr.add_zero'] at hx599_0); replace p599 := eq_true p599; replace q599 := eq_true q599))
         repeat (go_quiet (first | (go_at_call 179; (with_reducible refine (spec_roPlaces.calls k1 _ _ l0 (rd t591 x11_1) t595 _ ?side1 ?side2 A9.out).mono ?_); (case side1 => repeat (first | exact (Kd.C_below HR0.out HB.out) | (with_reducible refine Kd.C_alloc ?_ _) | (with_reducible refine Kd.C_drewN ?_ _) | (with_reducible refine Kd.C_drew ?_))); (case side2 => exact HC0.out); rintro e w15 ⟨v596, rfl, ho0, hb⟩; have HO597 := Aside0.mk (Kd.R_lower (Kd.R_new' ho0 (ltR HO_9)) (szB HB)); replace HO_9 := eldRR HO_9 ho0 hb; replace HB := upB HB hb; (try clear hb); (try clear hb2); (try clear hk); (try clear hi); (try clear ho0); obtain ⟨Ao16, co16, eo16⟩ := Kd.R_slice HO597.out; subst eo16; have p598 : 0 ≤ (1 : Int) := (by omega); have q598 : 1 < (t595.length : Int) := ofd; obtain ⟨ad598, e598, hx598_0⟩ := Kd.at_int (Kd.R_reads' HO597.out).2.2 1 p598 q598; cases e598; (try simp only [show (1 : Int).toNat = 1 from rfl, Nat.reduceMul, Nat.reduceEqDiff, Go.Addr.add, ↓reduceIte] at hx598_0); have qi598 : (1 < t595.length) = True := eq_true (by omega); (try rw [show ((1 : Int)).toNat = 1 from rfl] at hx598_0); replace p598 := eq_true p598; replace q598 := eq_true q598; have p599 : 0 ≤ (0 : Int) := (by omega); have q599 : 0 < (t595.length : Int) := ofd; obtain ⟨ad599, e599, hx599_0⟩ := Kd.at_int (Kd.R_reads' HO597.out).2.2 0 p599 q599; obtain rfl : ad598 = ad599 := (by injection e599); have qi599 : (0 < t595.length) = True := eq_true (by omega); (try rw [show ((0 : Int)).toNat = 0 from rfl] at hx599_0); (try rw [Addr.add_zero'] at hx599_0); replace p599 := eq_true p599; replace q599 := eq_true q599)); try go_wp2_with (first | (go_at_call 179; (with_reducible refine (spec_roPlaces.calls k1 _ _ l0 (rd t591 x11_1) t595 _ ?side1 ?side2 A9.out).mono ?_); (case side1 => repeat (first | exact (Kd.C_below HR0.out HB.out) | (with_reducible refine Kd.C_alloc ?_ _) | (with_reducible refine Kd.C_drewN ?_ _) | (with_reducible refine Kd.C_drew ?_))); (case side2 => exact HC0.out); rintro e w15 ⟨v596, rfl, ho0, hb⟩; have HO597 := Aside0.mk (Kd.R_lower (Kd.R_new' ho0 (ltR HO_9)) (szB HB)); replace HO_9 := eldRR HO_9 ho0 hb; replace HB := upB HB hb; (try clear hb); (try clear hb2); (try clear hk); (try clear hi); (try clear ho0); obtain ⟨Ao16, co16, eo16⟩ := Kd.R_slice HO597.out; subst eo16; have p598 : 0 ≤ (1 : Int) := (by omega); have q598 : 1 < (t595.length : Int) := ofd; obtain ⟨ad598, e598, hx598_0⟩ := Kd.at_int (Kd.R_reads' HO597.out).2.2 1 p598 q598; cases e598; (try simp only [show (1 : Int).toNat = 1 from rfl, Nat.reduceMul, Nat.reduceEqDiff, Go.Addr.add, ↓reduceIte] at hx598_0); have qi598 : (1 < t595.length) = True := eq_true (by omega); (try rw [show ((1 : Int)).toNat = 1 from rfl] at hx598_0); replace p598 := eq_true p598; replace q598 := eq_true q598; have p599 : 0 ≤ (0 : Int) := (by omega); have q599 : 0 < (t595.length : Int) := ofd; obtain ⟨ad599, e599, hx599_0⟩ := Kd.at_int (Kd.R_reads' HO597.out).2.2 0 p599 q599; obtain rfl : ad598 = ad599 := (by injection e599); have qi599 : (0 < t595.length) = True := eq_true (by omega); (try rw [show ((0 : Int)).toNat = 0 from rfl] at hx599_0); (try rw [Addr.add_zero'] at hx599_0); replace p599 := eq_true p599; replace q599 := eq_true q599)))
         go_ret
         exact ⟨eqr, atB HB⟩
       ·rw [if_neg c11] at H
        exact absurd H (by simp)
      ·rw [if_neg c10] at H
       exact absurd H (by simp)
     ·rw [if_neg c8] at H
      exact absurd H (by simp)
    ·rw [if_neg c7] at H
     exact absurd H (by simp)
   ·rw [if_neg c6] at H
    have c6b0 : decide (x11_1 < (t591.length : Int)) = false := decide_eq_false c6
    clear c6
    obtain rfl := Option.some.inj H
    go_wp2
    repeat (go_quiet (fail); try go_wp2)
    go_ret
    exact ⟨eqr, atB HB⟩

noncomputable def spec_roFits.L0 (x0 : List Int) (x1 : Int) (x9 : List Int) (x10 : Int) (x11 : Int) : Option (Bool) := lim fun k => spec_roFits.l0 k x0 x1 x9 x10 x11
theorem spec_roFits.L0_lim (x0 : List Int) (x1 : Int) (x9 : List Int) (x10 : Int) (x11 : Int) : Lim (fun k => spec_roFits.l0 k x0 x1 x9 x10 x11) (spec_roFits.L0 x0 x1 x9 x10 x11) := Lim.of fun k => (spec_roFits.mono_l k) x0 x1 x9 x10 x11
noncomputable def spec_roFits.F (l0 : List Int) (a1 : Int) : Option (Bool) := lim fun k => spec_roFits.f k l0 a1
theorem spec_roFits.F_lim (l0 : List Int) (a1 : Int) : Lim (fun k => spec_roFits.f k l0 a1) (spec_roFits.F l0 a1) := Lim.of fun k => spec_roFits.mono l0 a1 k
theorem spec_roFits.L0_eq (x0 : List Int) (x1 : Int) (x9 : List Int) (x10 : Int) (x11 : Int) : spec_roFits.L0 x0 x1 x9 x10 x11 = (if x11 < x10 then (if 0 ≤ x11 then (if x11 < (x9.length : Int) then ((spec_roPlaces.F x0 (rd x9 x11)).bind fun t595 => (if 1 < (t595.length : Int) then (if 0 < (t595.length : Int) then (if (wrap64 ((rd t595 1) - (rd t595 0))) = (wrap64 ((rd x9 x11) + x1)) then (spec_roFits.L0 x0 x1 x9 x10 (wrap64 (x11 + 1))) else (some false)) else (none)) else (none))) else (none)) else (none)) else (some true)) :=
 Lim.step (f := fun k => spec_roFits.l0 (k + 1) x0 x1 x9 x10 x11) (spec_roFits.L0_lim x0 x1 x9 x10 x11) (fun _ => rfl) (by
  simp only [spec_roFits.l0]
  repeat' (first | (with_reducible first | exact Lim.const _ | exact spec_roFits.L0_lim _ _ _ _ _ | exact spec_roPlaces.F_lim _ _ | refine Lim.ite ?_ ?_ | refine Lim.bind ?_ (fun _ => ?_))))
theorem spec_roFits.F_eq (l0 : List Int) (a1 : Int) : spec_roFits.F l0 a1 = ((spec_roNumbers.F l0).bind fun t591 => (spec_roFits.L0 l0 a1 t591 (t591.length : Int) 0)) :=
 Lim.unique (spec_roFits.F_lim l0 a1) (by
  unfold spec_roFits.f
  repeat' (first | (with_reducible first | exact Lim.const _ | exact spec_roFits.L0_lim _ _ _ _ _ | exact spec_roNumbers.F_lim _ | refine Lim.ite ?_ ?_ | refine Lim.bind ?_ (fun _ => ?_))))

end Go.Proofs.Ytaohgllnoomaeaa.Fn
namespace Go.Proofs.Ytaohgllnoomaeaa.Fn
open Go.RowKit Go.Proofs.YtaohgllnoomaeaaW.PrintWords Go.Proofs.YtaohgllnoomaeaaW.PrintLast Go.Proofs.YtaohgllnoomaeaaW.PrintMore
attribute [local go_sem] max2_int min2_int max_two min_two max_three min_three max_four min_four   -- for this text's walks alone
set_option linter.unusedVariables false
set_option linter.unusedSimpArgs false

/-! ### impl_kind_count: function 147 (given) -/
/-! ### kinds: what each of them asks of the function that it is given, and kind.count -/
/-- A kind, a function of a function: it calls it for some rows, one after the other, as `run` says. -/
def KindOk (kf : FuncId) (kcaps : Array Value) (Pre : World → Prop) (run : {σ : Type} → (σ → List Int → Option (σ × Bool)) → σ → Option (σ × Bool)) : Prop :=
 ∀ {σ : Type} {base : Nat} {fid : FuncId} {ecaps : Array Value} {each : σ → List Int → Option (σ × Bool)} {I : (Nat → Prop) → σ → World → Prop} (s s' : σ) (b : Bool) (w : World), Pre w → base ≤ w.heap.size → (∀ X : Nat → Prop, (∀ k, X k → w.heap.size ≤ k) → EachOk base X fid ecaps each (I X)) → (∀ (X : Nat → Prop) w', Below w.heap.size w w' → (∀ k, X k → w.heap.size ≤ k ∧ k < w'.heap.size) → I X s w') → run each s = some (s', b) →
  Calls Try.prog kf (#[.func (.func fid) #[] ecaps] ++ kcaps) w fun e w' => e = .returned (.tuple #[]) ∧ (∃ X : Nat → Prop, (∀ k, X k → w.heap.size ≤ k) ∧ I X s' w') ∧ Below base w w'
structure KindFn (kf : FuncId) : Prop where
 fn : ∃ fn, Try.prog.funcs[kf]? = some fn ∧ (fn.name == "runtime.NumGoroutine") = false ∧ fn.body.isSome = true
structure CountI (base bo : Nat) (X : Nat → Prop) (m : Nat) (w : World) : Prop where
 out : w.heap[bo]? = some (.cells #[.int .i64 (m : Int)] 3 (0, 0))
 bo : base ≤ bo
 lt : ∀ k, X k → k < w.heap.size
def eachCount (m : Nat) (_row : List Int) : Option (Nat × Bool) := if m < 1000000000000 then some (m + 1, false) else none
set_option maxHeartbeats 8000000 in
set_option maxRecDepth 100000 in
theorem count1_call {base bo : Nat} {X : Nat → Prop} (hXo : ¬ X bo) (m : Nat) (A : Option Addr) (n c : Nat) (w : World) (hI : CountI base bo X m w) (hm : m < 1000000000000) :
  Calls Try.prog 238 #[.slice A n c, .pointer (some ⟨bo, 0, none⟩)] w fun e w' => e = .returned (.bool false) ∧ CountI base bo X (m + 1) w' ∧ Below base w w' ∧ (∀ k, X k → w'.heap[k]? = w.heap[k]?) := by
 obtain ⟨h1, h4, h6⟩ := hI
 have HO := Aside0.mk h1
 have H4 := Aside0.mk h4
 have H6 := Aside0.mk h6
 have HXO := Aside0.mk hXo
 have hc := cell_of_one h1
 have hf := free_of_one h1
 have hw := wrap_in (n := (m : Int) + 1) (by omega) (by omega)
 clear h1 h4 h6 hXo
 go_enter Try.func238, Try.ntmps238
 go_wp2
 go_ret
 refine ⟨rfl, ⟨?_, H4.out, fun k hk => ?_⟩, Below.setCell (Below.refl _ _) (show base ≤ (⟨bo, 0, none⟩ : Addr).block from H4.out) _, fun k hk => Below.heap_setCell w _ _ k (fun e => HXO.out (by rw [show k = bo from e] at hk; exact hk))⟩
 ·exact one_setCell HO.out
 ·rw [size_setCell]; exact H6.out k hk
theorem count1_ok {base bo N : Nat} {X : Nat → Prop} (hX : ∀ k, X k → N ≤ k) (hbo : bo < N) : EachOk base X 238 #[.pointer (some ⟨bo, 0, none⟩)] eachCount (CountI base bo X) := by
 have hXo : ¬ X bo := fun h => by have := hX bo h; omega
 refine ⟨⟨_, Try.func238, by kernel_rfl, rfl⟩, fun s w w' h hs hk => ⟨(hk bo (blk_lt h.out) hXo).trans h.out, h.bo, fun k hx => Nat.lt_of_lt_of_le (h.lt k hx) hs⟩, fun s row A c w s' b hI hr hc hl h => ?_⟩
 unfold eachCount at h
 split at h
 ·rename_i hx
  obtain ⟨rfl, rfl⟩ := Prod.mk.inj (Option.some.inj h)
  exact count1_call hXo s A row.length c w hI hx
 ·cases h
section
variable {P : Program} {ops : Array Oper} {Q : Exit → Act → World → Prop}
/-- A call of a function value that has no arguments of its own ahead. -/
theorem goesX_ {rest : List Oper} {oi : Oper} {a : Act} {w : World} (N : Option Tmp) (hd : oi.dst = N) (hg : oi.guard = none) {f : FuncId} {p : Tmp} {xs : Array Operand} {ts : Array TypeId} {caps : Array Value} (hf : ∃ fn, P.funcs[f]? = some fn ∧ (fn.name == "runtime.NumGoroutine") = false ∧ fn.body.isSome = true) (args : Array Value)
  (hop : oi.op = .call { callee := .value (.tmp p), args := xs, argTypes := ts }) (hv : a.eval (.tmp p) = .func (.func f) #[] caps) (hargs : xs.map a.eval = args)
  (h : Calls P f (args ++ caps) w fun e w' => ∃ v, e = .returned v ∧ wpList P ops Q rest (a.put N v) w') : wpList P ops Q (oi :: rest) a w := by
 obtain ⟨fn, h1, h2, h3⟩ := hf
 exact goesV_ N hd hg h1 h2 h3 args hop hv hargs h
end
set_option maxHeartbeats 8000000 in
set_option maxRecDepth 100000 in
theorem kind_count_call {kf : FuncId} {kcaps : Array Value} {Pre : World → Prop} {run : {σ : Type} → (σ → List Int → Option (σ × Bool)) → σ → Option (σ × Bool)} (w : World) (hf : KindFn kf) (hP : ∀ w', Below w.heap.size w w' → Pre w') (h : KindOk kf kcaps Pre run) (m : Nat) (b : Bool) (hr : run eachCount 0 = some (m, b)) :
  Calls Try.prog 147 #[.func (.func kf) #[] kcaps] w fun e w' => e = .returned (.int .i64 (m : Int)) ∧ Below w.heap.size w w' := by
 have HF := Aside0.mk hf
 have HP := Aside0.mk hP
 have H := Aside0.mk @h
 have HR := Aside0.mk hr
 clear hf hP h hr
 go_enter Try.func147, Try.ntmps147
 go_wp2_with (first | ((with_reducible refine gate_dst (N := 3) rfl ?_); refine box_event ?hg (N := 3) ?hd (cs := #[.int .i64 0]) (t := 3) ?hr ?_; (case hd => rfl); (case hg => rfl); (case hr => first | (go_simp; done) | (go_simp; rfl)); intro g3 hg w1 hbox hb; have BK := Aside0.mk hbox; have HB := Aside0.mk (show Below w.heap.size w w1 from hb); have G3 := Aside0.mk (show w.heap.size ≤ g3 by omega); clear hb hbox hg; have hc3 := blk_cell BK.out 0; simp only [List.getElem?_toArray, List.getElem?_cons_zero] at hc3; have hf3 := blk_frozen BK.out 0) | ((with_reducible refine gate_value (p := 4) rfl ?_); obtain ⟨W1, hW1⟩ : ∃ W1, W1 = w1.setCell ⟨g3, 0, none⟩ (.int .i64 0) := ⟨_, rfl⟩; have BK1 := Aside0.mk (show W1.heap[g3]? = some (.cells #[.int .i64 0] 3 (0, 0)) by rw [hW1]; exact one_setCell BK.out); have HB1 := Aside0.mk (show Below w.heap.size w W1 by rw [hW1]; exact below_set HB.out G3.out); (first | rw [← hW1] | skip); have HCALL := Aside0.mk (H.out (base := w.heap.size) (fid := 238) (ecaps := #[.pointer (some ⟨g3, 0, none⟩)]) (each := eachCount) (I := fun X => CountI w.heap.size g3 X) 0 m b W1 (HP.out W1 HB1.out) HB1.out.size (fun X hX => count1_ok hX (blk_lt BK1.out)) (fun X w' hb hX => ⟨blk_below BK1.out hb, G3.out, fun k hk => (hX k hk).2⟩) HR.out); refine goesX_ (some 6) rfl rfl HF.out.fn #[.func (.func 238) #[] #[.pointer (some ⟨g3, 0, none⟩)]] rfl (by first | rfl | (simp [Act.eval]; done)) (by (try simp only [List.map_toArray, List.map_cons, List.map_nil]); first | done | rfl) ?_; refine HCALL.out.mono ?_; rintro e w3 ⟨rfl, ⟨X, hX3, hI3⟩, hB3⟩; refine ⟨_, rfl, ?_⟩; have HI3 := Aside0.mk hI3; have HB3 := Aside0.mk hB3; have hc4 := cell_of_one HI3.out.out; clear hX3 hI3 hB3 HCALL))
 go_ret
 exact ⟨rfl, HB1.out.trans HB3.out⟩


end Go.Proofs.Ytaohgllnoomaeaa.Fn
