/- The machine's side and plain lemmas for FnRulersMeasure: texts of this session, merged by its program (part 0). -/
import Derived.Test.YtofjndbpndpjjaaVFnRulersMeasure
import Derived.Test.YtofjndbpndpjjaaProg
import Derived.Below
import Derived.Deep.Draws
import Derived.Deep.AppendLies
import Derived.Maps.AppendAt
import Derived.OwnWalk
import Derived.Laws.BytesArg
import Derived.Laws.MakeOwn
import Derived.Laws.OwnMore
import Derived.Deep.OwnRows
import Derived.Tactics
import Derived.Lib.ConvBytes
import Derived.Laws.Slices
import Derived.WalkKit
import Derived.KernelRfl
import Derived.RowKit3
import Derived.Deep.LoopGhost
import Derived.Deep.QuietTactic
import Derived.BigQuiet
import Derived.WideLaws
import Derived.Deep.DeepCutAuto
import Derived.Deep.CutBlock
import Derived.Deep.RegionHeld3
import Derived.Laws.Rows
import Derived.Lib.AppendStr
import Derived.ArgAppend
import Derived.Laws.IdiomCopy
import Derived.OrdersHeld
import Derived.Laws.BitsLemmas
import Derived.RowKit
import Derived.Lib.SliceRun
import Derived.Sort.OwnSortedInts
import Derived.Test.YtofjndbpndpjjaaShelf
namespace Go.Proofs.Ytofjndbpndpjjaa.Fn
open Go.RowKit Go.Proofs.YtofjndbpndpjjaaW.PrintWords Go.Proofs.YtofjndbpndpjjaaW.PrintLast

/-- What a function with rounds comes to; none where it comes to nothing. -/
noncomputable def lim {α : Type} (g : Nat → Option α) : Option α := open Classical in if h : ∃ k r, g k = some r then g (Classical.choose h) else none
/-- g gives more with more rounds, and comes to a. -/
structure Lim {α : Type} (g : Nat → Option α) (a : Option α) : Prop where
  mono : ∀ k, LeO (g k) (g (k + 1))
  comes : ∀ r, a = some r ↔ ∃ k, g k = some r
theorem lim_some {α : Type} {g : Nat → Option α} (hg : ∀ k, LeO (g k) (g (k + 1))) (r : α) : lim g = some r ↔ ∃ k, g k = some r := by
  unfold lim
  constructor
  · intro h
    split at h
    · exact ⟨_, h⟩
    · cases h
  · rintro ⟨k, hk⟩
    have hx : ∃ k r, g k = some r := ⟨k, r, hk⟩
    rw [dif_pos hx]
    obtain ⟨r', hr'⟩ := Classical.choose_spec hx
    have h1 := at_rounds hg (Nat.le_max_left k (Classical.choose hx)) hk
    have h2 := at_rounds hg (Nat.le_max_right k (Classical.choose hx)) hr'
    rw [h1] at h2
    rw [hr', h2]
theorem Lim.of {α : Type} {g : Nat → Option α} (hg : ∀ k, LeO (g k) (g (k + 1))) : Lim g (lim g) := ⟨hg, lim_some hg⟩
theorem Lim.unique {α : Type} {g : Nat → Option α} {a b : Option α} (ha : Lim g a) (hb : Lim g b) : a = b := by
  have h : ∀ r, a = some r ↔ b = some r := fun r => (ha.comes r).trans (hb.comes r).symm
  cases a with
  | none =>
    cases b with
    | none => rfl
    | some r => exact absurd ((h r).2 rfl) (by simp)
  | some r => exact ((h r).1 rfl).symm
theorem Lim.const {α : Type} (a : Option α) : Lim (fun _ => a) a := ⟨fun _ => LeO.refl _, fun _ => ⟨fun h => ⟨0, h⟩, fun ⟨_, h⟩ => h⟩⟩
theorem Lim.ite {α : Type} {c : Prop} [Decidable c] {g f : Nat → Option α} {a b : Option α} (hg : Lim g a) (hf : Lim f b) : Lim (fun k => if c then g k else f k) (if c then a else b) := by
  by_cases h : c
  · simp only [if_pos h]
    exact hg
  · simp only [if_neg h]
    exact hf
theorem Lim.bind {α β : Type} {g : Nat → Option α} {f : Nat → α → Option β} {a : Option α} {b : α → Option β} (hg : Lim g a) (hf : ∀ x, Lim (fun k => f k x) (b x)) : Lim (fun k => (g k).bind (f k)) (a.bind b) := by
  refine ⟨fun k => LeO.bind (hg.mono k) (fun x => (hf x).mono k), fun r => ⟨fun h => ?_, fun ⟨k, h⟩ => ?_⟩⟩
  · obtain ⟨x, hx, hb⟩ := Option.bind_eq_some_iff.1 h
    obtain ⟨k, hk⟩ := (hg.comes x).1 hx
    obtain ⟨k', hk'⟩ := ((hf x).comes r).1 hb
    refine ⟨max k k', Option.bind_eq_some_iff.2 ⟨x, at_rounds hg.mono (Nat.le_max_left _ _) hk, ?_⟩⟩
    exact at_rounds (g := fun k => f k x) (hf x).mono (Nat.le_max_right _ _) hk'
  · obtain ⟨x, hx, hb⟩ := Option.bind_eq_some_iff.1 h
    exact Option.bind_eq_some_iff.2 ⟨x, (hg.comes x).2 ⟨k, hx⟩, ((hf x).comes r).2 ⟨k, hb⟩⟩
/-- One round of a loop: what stands behind it comes to the same. -/
theorem Lim.step {α : Type} {g f : Nat → Option α} {a b : Option α} (ha : Lim g a) (hs : ∀ k, g (k + 1) = f k) (hf : Lim f b) : a = b := by
  refine Lim.unique (g := f) ⟨hf.mono, fun r => (ha.comes r).trans ⟨fun ⟨k, h⟩ => ⟨k, ?_⟩, fun ⟨k, h⟩ => ⟨k + 1, (hs k).trans h⟩⟩⟩ hf
  rw [← hs]
  exact ha.mono k r h
theorem Lim.rounds {α : Type} {g : Nat → Option α} {a : Option α} {r : α} (h : Lim g a) (e : a = some r) : ∃ k, g k = some r := (h.comes r).1 e

/-! ### loops over a list -/
theorem wrap_in {n : Int} (h0 : -9223372036854775808 ≤ n) (h1 : n ≤ 9223372036854775807) : wrap64 n = n := by
  unfold wrap64
  omega
theorem rd_mid (pre : List Int) (x : Int) (suf : List Int) : rd (pre ++ x :: suf) (pre.length : Int) = x := by
  unfold rd
  simp
theorem rd_nat (l : List Int) (i : Nat) (h : i < l.length) : rd l (i : Int) = l[i] := by
  unfold rd
  simp [List.getD_eq_getElem?_getD, List.getElem?_eq_getElem h]
theorem range_step {α : Type} {pre : List Int} {x : Int} {suf : List Int} {b n1 n2 e : α} : (if (pre.length : Int) < ((pre ++ x :: suf).length : Int) then (if 0 ≤ (pre.length : Int) then (if (pre.length : Int) < ((pre ++ x :: suf).length : Int) then b else n1) else n2) else e) = b := by
  have h : (pre.length : Int) < ((pre ++ x :: suf).length : Int) := by rw [List.length_append, List.length_cons]; omega
  rw [if_pos h, if_pos (by omega), if_pos h]
theorem range_end {α : Type} {pre : List Int} {b e : α} : (if (pre.length : Int) < ((pre ++ []).length : Int) then b else e) = e := by
  rw [if_neg (by simp)]
theorem wrap_mid {pre : List Int} {x : Int} {suf : List Int} (h : (pre ++ x :: suf).length < 4611686018427387904) : wrap64 ((pre.length : Int) + 1) = ((pre ++ [x]).length : Int) := by
  have h1 : pre.length + 1 ≤ (pre ++ x :: suf).length := by rw [List.length_append, List.length_cons]; omega
  rw [wrap_in (by omega) (by omega)]
  simp
theorem app_mid (pre : List Int) (x : Int) (suf : List Int) : pre ++ x :: suf = (pre ++ [x]) ++ suf := by simp
/-- What is held up to here is nothing; from here on it is S'. -/
theorem weak_ {P : Program} {md : Region.Mode} {ops : Array Oper} {Q : Exit → Act → World → Prop} {S' : World → Prop} {ds : List Nat} : ∀ {fuel : Nat} {l : Array Bool} {a : Act} {w : World}, wpAnyLast P md ops Q S' ds fuel l a w → wpAnyLast P md ops Q (fun _ => True) ds fuel l a w
  | 0, _, _, _, h => h
  | _ + 1, _, _, _, h => ⟨h.1, fun i hi => wpOp_mono (fun _ _ h' => ⟨fun _ _ => trivial, weak_ h'.2⟩) (h.2 i hi)⟩
/-! #### steps of the walk in short: what is pending between two events (values drawn, boxes made) is told by default -/
section
variable {α : Type} {d : Kd α} {e base : Nat} {ok : Nat → Prop} {v : Value} {xs : List α} {w0 w w1 w2 : World}
theorem upR (h : Aside0 (Kd.R d e w base ok v xs)) (hb : Below w1.heap.size w1 w2) (hm : Below w.heap.size w w1 := by (with_reducible repeat (first | exact Below.refl _ _ | apply below_alloc | apply pw_below_drewN | apply below_drew1))) : Aside0 (Kd.R d e w2 base ok v xs) := ⟨Kd.R_below h.out (hm.trans (hb.mono hm.size))⟩
theorem upS (h : Aside0 (Kd.S d e w base ok v xs)) (hb : Below w1.heap.size w1 w2) (hm : Below w.heap.size w w1 := by (with_reducible repeat (first | exact Below.refl _ _ | apply below_alloc | apply pw_below_drewN | apply below_drew1))) : Aside0 (Kd.S d e w2 base ok v xs) := ⟨Kd.S_below h.out (hm.trans (hb.mono hm.size))⟩
theorem upC {A : Option Addr} {n : Nat} (h : Aside0 (Kd.C d w A n xs)) (hb : Below w1.heap.size w1 w2) (hm : Below w.heap.size w w1 := by (with_reducible repeat (first | exact Below.refl _ _ | apply below_alloc | apply pw_below_drewN | apply below_drew1))) : Aside0 (Kd.C d w2 A n xs) := ⟨Kd.C_below h.out (hm.trans (hb.mono hm.size))⟩
theorem atC {A : Option Addr} {n : Nat} (h : Aside0 (Kd.C d w A n xs)) (hm : Below w.heap.size w w1 := by (with_reducible repeat (first | exact Below.refl _ _ | apply below_alloc | apply pw_below_drewN | apply below_drew1))) : Kd.C d w1 A n xs := Kd.C_below h.out hm
theorem atRC {A : Option Addr} {n c : Nat} (h : Aside0 (Kd.R d e w base ok (.slice A n c) xs)) (hm : Below w.heap.size w w1 := by (with_reducible repeat (first | exact Below.refl _ _ | apply below_alloc | apply pw_below_drewN | apply below_drew1))) : Kd.C d w1 A xs.length xs := Kd.C_below (Kd.R_reads' h.out).2.2 hm
theorem atSC {A : Option Addr} {n c : Nat} (h : Aside0 (Kd.S d e w base ok (.slice A n c) xs)) (hm : Below w.heap.size w w1 := by (with_reducible repeat (first | exact Below.refl _ _ | apply below_alloc | apply pw_below_drewN | apply below_drew1))) : Kd.C d w1 A xs.length xs := Kd.C_below (Kd.S_reads' h.out).2.2 hm
theorem upB (h : Aside0 (Below w0.heap.size w0 w)) (hb : Below w1.heap.size w1 w2) (hm : Below w.heap.size w w1 := by (with_reducible repeat (first | exact Below.refl _ _ | apply below_alloc | apply pw_below_drewN | apply below_drew1))) : Aside0 (Below w0.heap.size w0 w2) := ⟨below_step (below_step h.out hm) hb⟩
theorem atB (h : Aside0 (Below w0.heap.size w0 w)) (hm : Below w.heap.size w w1 := by (with_reducible repeat (first | exact Below.refl _ _ | apply below_alloc | apply pw_below_drewN | apply below_drew1))) : Below w0.heap.size w0 w1 := below_step h.out hm
theorem lowR (h : Kd.R d e w2 w1.heap.size ok v xs) (hB : Aside0 (Below w0.heap.size w0 w)) (hm : Below w.heap.size w w1 := by (with_reducible repeat (first | exact Below.refl _ _ | apply below_alloc | apply pw_below_drewN | apply below_drew1))) : Aside0 (Kd.R d e w2 w0.heap.size ok v xs) := ⟨Kd.R_lower h (below_size (below_step hB.out hm))⟩
theorem lowS (h : Kd.S d e w2 w1.heap.size ok v xs) (hB : Aside0 (Below w0.heap.size w0 w)) (hm : Below w.heap.size w w1 := by (with_reducible repeat (first | exact Below.refl _ _ | apply below_alloc | apply pw_below_drewN | apply below_drew1))) : Aside0 (Kd.S d e w2 w0.heap.size ok v xs) := ⟨Kd.S_lower h (below_size (below_step hB.out hm))⟩
theorem upK {g : Nat} (hK : Aside0 (KeepBut w0 w g none)) (hk : KeepBut w1 w2 g none) (hm : Below w.heap.size w w1 := by (with_reducible repeat (first | exact Below.refl _ _ | apply below_alloc | apply pw_below_drewN | apply below_drew1))) : Aside0 (KeepBut w0 w2 g none) := ⟨(hK.out.trans (KeepBut.of_below hm g none) (.inl rfl)).trans hk (.inl rfl)⟩
theorem upKB {g : Nat} (hK : Aside0 (KeepBut w0 w g none)) (hb : Below w1.heap.size w1 w2) (hm : Below w.heap.size w w1 := by (with_reducible repeat (first | exact Below.refl _ _ | apply below_alloc | apply pw_below_drewN | apply below_drew1))) : Aside0 (KeepBut w0 w2 g none) := ⟨(hK.out.trans (KeepBut.of_below hm g none) (.inl rfl)).trans (KeepBut.of_below hb g none) (.inl rfl)⟩
theorem lowKR {g : Nat} (h : Kd.R d e w2 w1.heap.size ok v xs) (hK : Aside0 (KeepBut w0 w g none)) (hm : Below w.heap.size w w1 := by (with_reducible repeat (first | exact Below.refl _ _ | apply below_alloc | apply pw_below_drewN | apply below_drew1))) : Aside0 (Kd.R d e w2 w0.heap.size ok v xs) := ⟨Kd.R_lower h (keep_size (hK.out.trans (KeepBut.of_below hm g none) (.inl rfl)))⟩
theorem lowKS {g : Nat} (h : Kd.S d e w2 w1.heap.size ok v xs) (hK : Aside0 (KeepBut w0 w g none)) (hm : Below w.heap.size w w1 := by (with_reducible repeat (first | exact Below.refl _ _ | apply below_alloc | apply pw_below_drewN | apply below_drew1))) : Aside0 (Kd.S d e w2 w0.heap.size ok v xs) := ⟨Kd.S_lower h (keep_size (hK.out.trans (KeepBut.of_below hm g none) (.inl rfl)))⟩
theorem szK {g : Nat} (hK : Aside0 (KeepBut w0 w g none)) (hm : Below w.heap.size w w1 := by (with_reducible repeat (first | exact Below.refl _ _ | apply below_alloc | apply pw_below_drewN | apply below_drew1))) : w0.heap.size ≤ w1.heap.size := keep_size (hK.out.trans (KeepBut.of_below hm g none) (.inl rfl))
theorem szB (hB : Aside0 (Below w0.heap.size w0 w)) (hm : Below w.heap.size w w1 := by (with_reducible repeat (first | exact Below.refl _ _ | apply below_alloc | apply pw_below_drewN | apply below_drew1))) : w0.heap.size ≤ w1.heap.size := below_size (below_step hB.out hm)
theorem ltR (h : Aside0 (Kd.R d e w base ok v xs)) (hm : Below w.heap.size w w1 := by (with_reducible repeat (first | exact Below.refl _ _ | apply below_alloc | apply pw_below_drewN | apply below_drew1))) : ∀ k, v.ownBlock = some k → k < w1.heap.size := Kd.R_lt (Kd.R_below h.out hm)
theorem ltS (h : Aside0 (Kd.S d e w base ok v xs)) (hm : Below w.heap.size w w1 := by (with_reducible repeat (first | exact Below.refl _ _ | apply below_alloc | apply pw_below_drewN | apply below_drew1))) : ∀ k, v.ownBlock = some k → k < w1.heap.size := Kd.S_lt (Kd.S_below h.out hm)
theorem eldRR {β : Type} {d' : Kd β} {e' : Nat} {ok' : Nat → Prop} {u : Value} {ys : List β} (h : Aside0 (Kd.R d e w base ok v xs)) (h2 : Kd.R d' e' w2 w1.heap.size ok' u ys) (hb : Below w1.heap.size w1 w2) (hm : Below w.heap.size w w1 := by (with_reducible repeat (first | exact Below.refl _ _ | apply below_alloc | apply pw_below_drewN | apply below_drew1))) : Aside0 (Kd.R d e w2 base (fun k => ok k ∧ some k ≠ u.ownBlock) v xs) := ⟨Kd.R_elder' (Kd.R_below h.out hm) (Kd.R_base h2) hb⟩
theorem eldSR {β : Type} {d' : Kd β} {e' : Nat} {ok' : Nat → Prop} {u : Value} {ys : List β} (h : Aside0 (Kd.S d e w base ok v xs)) (h2 : Kd.R d' e' w2 w1.heap.size ok' u ys) (hb : Below w1.heap.size w1 w2) (hm : Below w.heap.size w w1 := by (with_reducible repeat (first | exact Below.refl _ _ | apply below_alloc | apply pw_below_drewN | apply below_drew1))) : Aside0 (Kd.S d e w2 base (fun k => ok k ∧ some k ≠ u.ownBlock) v xs) := ⟨Kd.S_elder' (Kd.S_below h.out hm) (Kd.R_base h2) hb⟩
theorem atR (h : Aside0 (Kd.R d e w base ok v xs)) (hm : Below w.heap.size w w1 := by (with_reducible repeat (first | exact Below.refl _ _ | apply below_alloc | apply pw_below_drewN | apply below_drew1))) : Kd.R d e w1 base ok v xs := Kd.R_below h.out hm
theorem atS (h : Aside0 (Kd.S d e w base ok v xs)) (hm : Below w.heap.size w w1 := by (with_reducible repeat (first | exact Below.refl _ _ | apply below_alloc | apply pw_below_drewN | apply below_drew1))) : Kd.S d e w1 base ok v xs := Kd.S_below h.out hm
theorem atK {g : Nat} (hK : Aside0 (KeepBut w0 w g none)) (hm : Below w.heap.size w w1 := by (with_reducible repeat (first | exact Below.refl _ _ | apply below_alloc | apply pw_below_drewN | apply below_drew1))) : KeepBut w0 w1 g none := hK.out.trans (KeepBut.of_below hm g none) (.inl rfl)
end
/-- A literal of rows, in a region of its own world. -/
theorem N_lit0 {P : Program} {ops : Array Oper} {rest : List Oper} {o : Oper} {a : Act} {Q : Exit → Act → World → Prop} {α : Type} (d : Kd α) {W : World} (e : Nat) (hg : o.guard = none) {N' : Tmp} (hd : o.dst = some N') {xs : List α} {inner : List Value} {ok okp : Nat → Prop}
    (hr : Go.Sem.run P (execOp a.eval o) W = .ok (.value (.slice (some { block := W.heap.size, off := 0 }) xs.length xs.length)) (W.alloc (.cells inner.toArray e))) (hp : Reps (d.FK W okp) d.sz xs inner) (hk : ∀ k : Nat, okp k → ok k) (h0 : ok W.heap.size) (hl : xs.length ≤ 9223372036854775807)
    (h : ∀ (v1 : Value) (w1 : World), d.N e w1 W.heap.size ok v1 xs → Below W.heap.size W w1 → W.grownBy w1 none → (∃ b, v1.ownBlock = some b ∧ W.heap.size ≤ b) → wpList P ops Q rest (a.put o.dst v1) w1) : wpList P ops Q (o :: rest) a W :=
  Kd.N_lit d (w0 := W) W.heap.size e hg hd hr hp hk h0 (Below.refl _ _) (Nat.le_refl _) hl h
theorem repsI {W : World} {b : Nat} {ok : Nat → Prop} : ∀ xs : List Int, Reps (Kd.M (Kd.int .i64) W b ok) 1 xs (xs.map (Value.int .i64))
  | [] => Reps.none _ _
  | _ :: xs => Reps.one rfl (repsI xs)
theorem eqd {β : Sort _} {a b : β} (h : a = b := by first | rfl | (simp; done) | (simp [*]; done)) : a = b := h
theorem eqr {β : Sort _} {a b : β} (h : a = b := by first | rfl | (simp [errW_none, errW_some] <;> rfl) | (simp [*, errW_none, errW_some] <;> rfl)) : a = b := h
theorem leD {a b : Nat} (h : a ≤ b := by first | omega | exact Nat.le_refl _) : a ≤ b := h
theorem ofd {p : Prop} [Decidable p] (h : decide p = true := by first | (with_reducible assumption) | assumption) : p := of_decide_eq_true h
theorem goesA {P : Program} {ops : Array Oper} {Q : Exit → Act → World → Prop} {rest : List Oper} {oi : Oper} {a : Act} {w : World} {f : FuncId} {fn : Func} {opers : Array Operand} {ts : Array TypeId} (N : Option Tmp) (hf : P.funcs[f]? = some fn) (args : Array Value) (h : Calls P f args w fun e w' => ∃ v, e = .returned v ∧ wpList P ops Q rest (a.put N v) w') (hd : oi.dst = N := by exact rfl) (hg : oi.guard = none := by exact rfl) (hname : (fn.name == "runtime.NumGoroutine") = false := by kernel_rfl) (hb : fn.body.isSome = true := by exact rfl) (hop : oi.op = .call { callee := .value (.func f), args := opers, argTypes := ts } := by exact rfl) (hargs : opers.map a.eval = args := by ((try simp only [List.map_toArray, List.map_cons, List.map_nil]); first | done | rfl | (simp only [List.length_drop, List.length_take]; rfl))) : wpList P ops Q (oi :: rest) a w := goesL_ N hd hg hf hname hb args hop hargs h
end Go.Proofs.Ytofjndbpndpjjaa.Fn
namespace Go.Proofs.Ytofjndbpndpjjaa.Fn
open Go.RowKit Go.Proofs.YtofjndbpndpjjaaW.PrintWords Go.Proofs.YtofjndbpndpjjaaW.PrintLast Go.Proofs.YtofjndbpndpjjaaW.PrintMore
attribute [local go_sem] max2_int min2_int max_two min_two max_three min_three max_four min_four   -- for this text's walks alone
set_option linter.unusedVariables false
set_option linter.unusedSimpArgs false



def errW : Option Int → Value
  | none => .nilIface
  | some c => .iface 0 (.int .i64 c)
theorem errW_none : errW none = .nilIface := rfl
theorem errW_some (c : Int) : errW (some c) = .iface 0 (.int .i64 c) := rfl

theorem info3 : (Try.prog.info? 3).map (fun i => (i.zero, i.size, i.bytes)) = some (some (.int .i64 0), 1, 8) := by kernel_rfl
theorem info24 : (Try.prog.info? 24).map (fun i => (i.zero, i.size, i.bytes)) = some (some (.slice none 0 0), 1, 24) := by kernel_rfl
-- the values' own types
def rd_L2 (xs : List (List Int)) (i : Int) : (List Int) := xs.getD i.toNat ([] : List Int)
theorem at_L2 {w : World} {A : Option Addr} {n : Nat} {xs : List (List Int)} (h : Kd.C (Kd.slice 3 (Kd.int .i64)) w A n xs) (i : Int) (h0 : 0 ≤ i) (h1 : i < n) : ∃ ad A0 c0, A = some ad ∧ w.cell? (ad.add i.toNat) = some (.slice A0 (rd_L2 xs i).length c0) ∧ (rd_L2 xs i).length ≤ c0 ∧ (Kd.int .i64).C w A0 (rd_L2 xs i).length (rd_L2 xs i) := by
  obtain ⟨ad, c, e, _, hK, hc0⟩ := Kd.C_get h ([] : List Int) i h0 h1
  have hc : ∀ j u, c[j]? = some u → w.cell? (ad.add (i.toNat * 1 + j)) = some u := hc0
  obtain ⟨A0, c0, rfl, l0, g0⟩ := hK
  exact ⟨ad, A0, c0, e, by have hq := hc 0 _ rfl; rwa [Nat.mul_one, Nat.add_zero] at hq, l0, g0⟩

end Go.Proofs.Ytofjndbpndpjjaa.Fn
namespace Go.Proofs.Ytofjndbpndpjjaa.Fn
open Go.RowKit Go.Proofs.YtofjndbpndpjjaaW.PrintWords Go.Proofs.YtofjndbpndpjjaaW.PrintLast Go.Proofs.YtofjndbpndpjjaaW.PrintMore
attribute [local go_sem] max2_int min2_int max_two min_two max_three min_three max_four min_four   -- for this text's walks alone
set_option linter.unusedVariables false
set_option linter.unusedSimpArgs false

/-- A state of type 58 at block g of W; what its slices lead to came in by w0. -/
def IsS58 (w0 W : World) (g : Nat) (f0 : List Int) (f1 : Int) (f2 : Int) : Prop := ∃ A0 c0, W.heap[g]? = some (.cells #[.slice A0 f0.length c0, .int .i64 f1, .int .u64 f2] 58 (0, 0)) ∧ w0.heap.size ≤ g ∧ Kd.C (Kd.int .u8) w0 A0 f0.length f0
theorem IsS58.grown {w0 W : World} {g : Nat} {f0 : List Int} {f1 : Int} {f2 : Int} {W1 : World} {row : Option Nat} (h : IsS58 w0 W g f0 f1 f2) (hw : W.grownBy W1 row) (hne : some g ≠ row) : IsS58 w0 W1 g f0 f1 f2 := by
  obtain ⟨A0, c0, hb, hg, hr0⟩ := h
  exact ⟨A0, c0, blk_grown hb hw hne, hg, hr0⟩
theorem IsS58.own_neN {w0 W : World} {g : Nat} {f0 : List Int} {f1 : Int} {f2 : Int} {α : Type} {d : Kd α} {e : Nat} {base : Nat} {ok : Nat → Prop} {v : Value} {xs : List α} (h : IsS58 w0 W g f0 f1 f2) (ho : Kd.N d e W base ok v xs) (ht : e ≠ 58) : some g ≠ v.ownBlock := by
  obtain ⟨A0, c0, hb, hg, hr0⟩ := h
  exact Kd.N_ne ho hb ht
theorem IsS58.fresh {w0 W : World} {g : Nat} {f0 : List Int} {f1 : Int} {f2 : Int} (h : IsS58 w0 W g f0 f1 f2) : ∀ k, W.heap.size ≤ k → k ≠ g := by
  obtain ⟨A0, c0, hb, hg, hr0⟩ := h
  exact Kd.freshB hb
theorem IsS58.kept {w0 W : World} {g : Nat} {f0 : List Int} {f1 : Int} {f2 : Int} {W1 : World} {S : Nat → Prop} (h : IsS58 w0 W g f0 f1 f2) (hk : Kept W W1 S) (hne : ¬ S g) : IsS58 w0 W1 g f0 f1 f2 := by
  obtain ⟨A0, c0, hb, hg, hr0⟩ := h
  exact ⟨A0, c0, blk_kept hb hk hne, hg, hr0⟩
theorem IsS58.below {w0 W : World} {g : Nat} {f0 : List Int} {f1 : Int} {f2 : Int} {W1 : World} (h : IsS58 w0 W g f0 f1 f2) (hw : Below W.heap.size W W1) : IsS58 w0 W1 g f0 f1 f2 := h.grown (grown_of_below hw none) (by simp)
theorem IsS58.up {w0 W : World} {g : Nat} {f0 : List Int} {f1 : Int} {f2 : Int} {W1 W2 : World} (h : Aside0 (IsS58 w0 W g f0 f1 f2)) (hb : Below W1.heap.size W1 W2) (hm : Below W.heap.size W W1 := by (with_reducible repeat (first | exact Below.refl _ _ | apply below_alloc | apply pw_below_drewN | apply below_drew1))) : Aside0 (IsS58 w0 W2 g f0 f1 f2) := ⟨IsS58.below h.out (hm.trans (hb.mono hm.size))⟩
theorem IsS58.at {w0 W : World} {g : Nat} {f0 : List Int} {f1 : Int} {f2 : Int} {W1 : World} (h : Aside0 (IsS58 w0 W g f0 f1 f2)) (hm : Below W.heap.size W W1 := by (with_reducible repeat (first | exact Below.refl _ _ | apply below_alloc | apply pw_below_drewN | apply below_drew1))) : IsS58 w0 W1 g f0 f1 f2 := IsS58.below h.out hm
theorem IsS58.alloc {w0 W : World} {g : Nat} {f0 : List Int} {f1 : Int} {f2 : Int} (h : IsS58 w0 W g f0 f1 f2) (o : Obj) : IsS58 w0 (W.alloc o) g f0 f1 f2 := h.below (below_alloc (Below.refl _ _) o)
theorem IsS58.drewN {w0 W : World} {g : Nat} {f0 : List Int} {f1 : Int} {f2 : Int} (h : IsS58 w0 W g f0 f1 f2) (m : Nat) : IsS58 w0 (W.drewN m) g f0 f1 f2 := h
theorem IsS58.drew {w0 W : World} {g : Nat} {f0 : List Int} {f1 : Int} {f2 : Int} (h : IsS58 w0 W g f0 f1 f2) : IsS58 w0 W.drew g f0 f1 f2 := h
theorem IsS58.at_ {w0 W : World} {g : Nat} {f0 : List Int} {f1 : Int} {f2 : Int} {w' : World} {m : Nat} (hq : W.drewN m = w') (h : IsS58 w0 W g f0 f1 f2) : IsS58 w0 w' g f0 f1 f2 := by subst hq; exact IsS58.drewN h m
theorem IsS58.apart {w0 W : World} {g : Nat} {f0 : List Int} {f1 : Int} {f2 : Int} {α : Type} {d : Kd α} {e : Nat} {base : Nat} {ok : Nat → Prop} {v : Value} {xs : List α} (h : IsS58 w0 W g f0 f1 f2) (ho : d.R e W base ok v xs) (ht : ∀ q, q ∈ e :: d.E → q ≠ 58) : d.R e W base (fun k => ok k ∧ k ≠ g) v xs := by
  obtain ⟨A0, c0, hb, hg, hr0⟩ := h
  exact Kd.R_types ho hb ht
theorem IsS58.keepR {w0 W : World} {g : Nat} {f0 : List Int} {f1 : Int} {f2 : Int} {α : Type} {d : Kd α} {e : Nat} {base : Nat} {ok : Nat → Prop} {v : Value} {xs : List α} {Wr W1 W2 : World} (hI : Aside0 (IsS58 w0 W g f0 f1 f2)) (ho : Aside0 (Kd.R d e Wr base ok v xs)) (hk : KeepBut W1 W2 g none) (hm : Below W.heap.size W W1 := by (with_reducible repeat (first | exact Below.refl _ _ | apply below_alloc | apply pw_below_drewN | apply below_drew1))) (hn : Below Wr.heap.size Wr W1 := by (with_reducible repeat (first | exact Below.refl _ _ | apply below_alloc | apply pw_below_drewN | apply below_drew1))) (hd : ∀ q, q ∈ e :: d.E → q ≠ 58 := by decide) : Aside0 (Kd.R d e W2 base ok v xs) :=
  ⟨Kd.R_mono (Kd.R_keep (IsS58.apart (IsS58.below hI.out hm) (Kd.R_below ho.out hn) hd) hk (fun _ h => h.2)) (fun _ h => h.1)⟩
theorem IsS58.own_ne {w0 W : World} {g : Nat} {f0 : List Int} {f1 : Int} {f2 : Int} {α : Type} {d : Kd α} {e : Nat} {base : Nat} {ok : Nat → Prop} {v : Value} {xs : List α} (h : IsS58 w0 W g f0 f1 f2) (ho : d.R e W base ok v xs) (ht : e ≠ 58) : some g ≠ v.ownBlock := by
  obtain ⟨A0, c0, hb, hg, hr0⟩ := h
  exact Kd.R_ne ho hb ht
theorem IsS58.apartQ {w0 W : World} {g : Nat} {f0 : List Int} {f1 : Int} {f2 : Int} {α : Type} {d : Kd α} {e : Nat} {base : Nat} {ok : Nat → Prop} {v : Value} {xs : List α} (h : IsS58 w0 W g f0 f1 f2) (ho : d.Q e W base ok v xs) (ht : ∀ q, q ∈ e :: d.E → q ≠ 58) : d.Q e W base (fun k => ok k ∧ k ≠ g) v xs := by
  obtain ⟨A0, c0, hb, hg, hr0⟩ := h
  exact Kd.Q_types ho hb ht
theorem IsS58.own_neQ {w0 W : World} {g : Nat} {f0 : List Int} {f1 : Int} {f2 : Int} {α : Type} {d : Kd α} {e : Nat} {base : Nat} {ok : Nat → Prop} {v : Value} {xs : List α} (h : IsS58 w0 W g f0 f1 f2) (ho : d.Q e W base ok v xs) (ht : e ≠ 58) : some g ≠ v.ownBlock := by
  obtain ⟨A0, c0, hb, hg, hr0⟩ := h
  exact Kd.Q_ne ho hb ht
theorem IsS58.apartS {w0 W : World} {g : Nat} {f0 : List Int} {f1 : Int} {f2 : Int} {α : Type} {d : Kd α} {e : Nat} {base : Nat} {ok : Nat → Prop} {v : Value} {xs : List α} (h : IsS58 w0 W g f0 f1 f2) (ho : d.S e W base ok v xs) (ht : ∀ q, q ∈ e :: d.E → q ≠ 58) : d.S e W base (fun k => ok k ∧ k ≠ g) v xs := by
  obtain ⟨A0, c0, hb, hg, hr0⟩ := h
  exact Kd.S_types ho hb ht
theorem IsS58.keepS {w0 W : World} {g : Nat} {f0 : List Int} {f1 : Int} {f2 : Int} {α : Type} {d : Kd α} {e : Nat} {base : Nat} {ok : Nat → Prop} {v : Value} {xs : List α} {Wr W1 W2 : World} (hI : Aside0 (IsS58 w0 W g f0 f1 f2)) (ho : Aside0 (Kd.S d e Wr base ok v xs)) (hk : KeepBut W1 W2 g none) (hm : Below W.heap.size W W1 := by (with_reducible repeat (first | exact Below.refl _ _ | apply below_alloc | apply pw_below_drewN | apply below_drew1))) (hn : Below Wr.heap.size Wr W1 := by (with_reducible repeat (first | exact Below.refl _ _ | apply below_alloc | apply pw_below_drewN | apply below_drew1))) (hd : ∀ q, q ∈ e :: d.E → q ≠ 58 := by decide) : Aside0 (Kd.S d e W2 base ok v xs) :=
  ⟨Kd.S_mono (Kd.S_keep (IsS58.apartS (IsS58.below hI.out hm) (Kd.S_below ho.out hn) hd) hk (fun _ h => h.2)) (fun _ h => h.1)⟩
theorem IsS58.own_neS {w0 W : World} {g : Nat} {f0 : List Int} {f1 : Int} {f2 : Int} {α : Type} {d : Kd α} {e : Nat} {base : Nat} {ok : Nat → Prop} {v : Value} {xs : List α} (h : IsS58 w0 W g f0 f1 f2) (ho : d.S e W base ok v xs) (ht : e ≠ 58) : some g ≠ v.ownBlock := by
  obtain ⟨A0, c0, hb, hg, hr0⟩ := h
  exact Kd.S_ne ho hb ht
theorem IsS58.lt {w0 W : World} {g : Nat} {f0 : List Int} {f1 : Int} {f2 : Int} (h : IsS58 w0 W g f0 f1 f2) : g < W.heap.size := by
  obtain ⟨A0, c0, hb, hg, hr0⟩ := h
  exact blk_lt hb
theorem IsS58.ge {w0 W : World} {g : Nat} {f0 : List Int} {f1 : Int} {f2 : Int} (h : IsS58 w0 W g f0 f1 f2) : w0.heap.size ≤ g := by
  obtain ⟨A0, c0, hb, hg, hr0⟩ := h
  exact hg
theorem IsS58.ne_blk {w0 W : World} {g : Nat} {f0 : List Int} {f1 : Int} {f2 : Int} {a : Nat} {cs : Array Value} {t : TypeId} {fr : Nat × Nat} (h : IsS58 w0 W g f0 f1 f2) (hb2 : W.heap[a]? = some (.cells cs t fr)) (ht : t ≠ 58) : g ≠ a := by
  obtain ⟨A0, c0, hb, hg, hr0⟩ := h
  rintro rfl
  rw [hb] at hb2
  injection hb2 with hb2
  injection hb2 with _ ht2
  exact ht ht2.symm
theorem IsS58.far {w0 W : World} {g : Nat} {f0 : List Int} {f1 : Int} {f2 : Int} {p : Addr} (h : IsS58 w0 W g f0 f1 f2) (hne : g ≠ p.block) (u : Value) : IsS58 w0 (W.setCell p u) g f0 f1 f2 := by
  obtain ⟨A0, c0, hb, hg, hr0⟩ := h
  exact ⟨A0, c0, blk_far hb hne u, hg, hr0⟩
theorem cellS58_0 {W : World} {g : Nat} {A0 : Option Addr} {c0 : Nat} {f0 : List Int} {f1 : Int} {f2 : Int} (h : W.heap[g]? = some (.cells #[.slice A0 f0.length c0, .int .i64 f1, .int .u64 f2] 58 (0, 0))) : W.cell? ⟨g, 0, none⟩ = some (.slice A0 f0.length c0) := (blk_cell h 0).trans rfl
theorem cellS58_1 {W : World} {g : Nat} {A0 : Option Addr} {c0 : Nat} {f0 : List Int} {f1 : Int} {f2 : Int} (h : W.heap[g]? = some (.cells #[.slice A0 f0.length c0, .int .i64 f1, .int .u64 f2] 58 (0, 0))) : W.cell? ⟨g, 1, none⟩ = some (.int .i64 f1) := (blk_cell h 1).trans rfl
theorem IsS58.set_1 {w0 W : World} {g : Nat} {f0 : List Int} {f1 : Int} {f2 : Int} (h : IsS58 w0 W g f0 f1 f2) (x : Int) : IsS58 w0 (W.setCell ⟨g, 1, none⟩ (.int .i64 x)) g f0 x f2 := by
  obtain ⟨A0, c0, hb, hg, hr0⟩ := h
  exact ⟨A0, c0, by simpa using blk_set hb 1 (.int .i64 x), hg, hr0⟩
theorem cellS58_2 {W : World} {g : Nat} {A0 : Option Addr} {c0 : Nat} {f0 : List Int} {f1 : Int} {f2 : Int} (h : W.heap[g]? = some (.cells #[.slice A0 f0.length c0, .int .i64 f1, .int .u64 f2] 58 (0, 0))) : W.cell? ⟨g, 2, none⟩ = some (.int .u64 f2) := (blk_cell h 2).trans rfl
theorem IsS58.set_2 {w0 W : World} {g : Nat} {f0 : List Int} {f1 : Int} {f2 : Int} (h : IsS58 w0 W g f0 f1 f2) (x : Int) : IsS58 w0 (W.setCell ⟨g, 2, none⟩ (.int .u64 x)) g f0 f1 x := by
  obtain ⟨A0, c0, hb, hg, hr0⟩ := h
  exact ⟨A0, c0, by simpa using blk_set hb 2 (.int .u64 x), hg, hr0⟩
theorem IsS58.new (w0 W : World) (A0 : Option Addr) (c0 : Nat) (f0 : List Int) (f1 : Int) (f2 : Int) (hB : Below w0.heap.size w0 W) (hr0 : Kd.C (Kd.int .u8) w0 A0 f0.length f0) : IsS58 w0 (W.alloc (.cells #[.slice A0 f0.length c0, .int .i64 f1, .int .u64 f2] 58)) W.heap.size f0 f1 f2 := ⟨A0, c0, by simpa using heap_alloc_new W _, hB.size, hr0⟩

/-! ### spec_l1Cur_next: function 101 -/
def spec_l1Cur_next.f (s0_0 : List Int) (s0_1 : Int) (s0_2 : Int) : Option (Int × Int × Int) := if s0_1 < (s0_0.length : Int) then (if 0 ≤ s0_1 then (if (wrap64 (s0_1 + 1)) ≤ (s0_0.length : Int) then (some (wrap64 (rd s0_0 s0_1), wrap64 (s0_1 + 1), IntKind.u64.wrap ((IntKind.u64.wrap ((IntKind.u64.wrap (s0_2 * 6364136223846793005)) + (IntKind.u64.wrap (wrap64 (rd s0_0 s0_1))))) + 1442695040888963407))) else (some (wrap64 (Go.bits .and .u64 ((IntKind.u64.wrap ((IntKind.u64.wrap ((IntKind.u64.wrap (s0_2 * 6364136223846793005)) + (IntKind.u64.wrap (wrap64 (rd s0_0 s0_1))))) + 1442695040888963407)) / 1099511627776) 255), wrap64 (s0_1 + 1), IntKind.u64.wrap ((IntKind.u64.wrap ((IntKind.u64.wrap (s0_2 * 6364136223846793005)) + (IntKind.u64.wrap (wrap64 (rd s0_0 s0_1))))) + 1442695040888963407)))) else (none)) else (if (wrap64 (s0_1 + 1)) ≤ (s0_0.length : Int) then (some (0, wrap64 (s0_1 + 1), IntKind.u64.wrap ((IntKind.u64.wrap (IntKind.u64.wrap (s0_2 * 6364136223846793005))) + 1442695040888963407))) else (some (wrap64 (Go.bits .and .u64 ((IntKind.u64.wrap ((IntKind.u64.wrap (IntKind.u64.wrap (s0_2 * 6364136223846793005))) + 1442695040888963407)) / 1099511627776) 255), wrap64 (s0_1 + 1), IntKind.u64.wrap ((IntKind.u64.wrap (IntKind.u64.wrap (s0_2 * 6364136223846793005))) + 1442695040888963407))))
set_option maxHeartbeats 8000000 in
set_option maxRecDepth 100000 in
theorem spec_l1Cur_next.calls (g : Nat) (s0_0 : List Int) (s0_1 : Int) (s0_2 : Int) (r1 : Int) (r2 : Int) (r3 : Int) (w0 w : World) (hI : IsS58 w0 w g s0_0 s0_1 s0_2) (hB : Below w0.heap.size w0 w) (h : spec_l1Cur_next.f s0_0 s0_1 s0_2 = some (r1, r2, r3)) :
    Calls Try.prog 101 #[.pointer (some ⟨g, 0, none⟩)] w fun e w' => e = .returned (.int .i64 r1) ∧ IsS58 w0 w' g s0_0 r2 r3 ∧ Below w0.heap.size w0 w' ∧ KeepBut w w' g none := by
  have HI0 := Aside0.mk hI
  have HK := Aside0.mk (KeepBut.refl w g none)
  have HL := Aside0.mk hB.size
  clear hI
  have HW0 := Aside0.mk hB.size
  have HB := Aside0.mk hB
  clear hB
  have H : (if s0_1 < (s0_0.length : Int) then (if 0 ≤ s0_1 then (if (wrap64 (s0_1 + 1)) ≤ (s0_0.length : Int) then (some (wrap64 (rd s0_0 s0_1), wrap64 (s0_1 + 1), IntKind.u64.wrap ((IntKind.u64.wrap ((IntKind.u64.wrap (s0_2 * 6364136223846793005)) + (IntKind.u64.wrap (wrap64 (rd s0_0 s0_1))))) + 1442695040888963407))) else (some (wrap64 (Go.bits .and .u64 ((IntKind.u64.wrap ((IntKind.u64.wrap ((IntKind.u64.wrap (s0_2 * 6364136223846793005)) + (IntKind.u64.wrap (wrap64 (rd s0_0 s0_1))))) + 1442695040888963407)) / 1099511627776) 255), wrap64 (s0_1 + 1), IntKind.u64.wrap ((IntKind.u64.wrap ((IntKind.u64.wrap (s0_2 * 6364136223846793005)) + (IntKind.u64.wrap (wrap64 (rd s0_0 s0_1))))) + 1442695040888963407)))) else (none)) else (if (wrap64 (s0_1 + 1)) ≤ (s0_0.length : Int) then (some (0, wrap64 (s0_1 + 1), IntKind.u64.wrap ((IntKind.u64.wrap (IntKind.u64.wrap (s0_2 * 6364136223846793005))) + 1442695040888963407))) else (some (wrap64 (Go.bits .and .u64 ((IntKind.u64.wrap ((IntKind.u64.wrap (IntKind.u64.wrap (s0_2 * 6364136223846793005))) + 1442695040888963407)) / 1099511627776) 255), wrap64 (s0_1 + 1), IntKind.u64.wrap ((IntKind.u64.wrap (IntKind.u64.wrap (s0_2 * 6364136223846793005))) + 1442695040888963407))))) = some (r1, r2, r3) := h
  clear h
  by_cases c2 : s0_1 < (s0_0.length : Int)
  · rw [if_pos c2] at H
    have c2b0 : decide (s0_1 < (s0_0.length : Int)) = true := decide_eq_true c2
    clear c2
    by_cases c3 : 0 ≤ s0_1
    · rw [if_pos c3] at H
      have c3b0 : decide (0 ≤ s0_1) = true := decide_eq_true c3
      clear c3
      by_cases c4 : (wrap64 (s0_1 + 1)) ≤ (s0_0.length : Int)
      · rw [if_pos c4] at H
        have c4b0 : decide ((wrap64 (s0_1 + 1)) ≤ (s0_0.length : Int)) = true := decide_eq_true c4
        clear c4
        simp only [Option.some.injEq, Prod.mk.injEq] at H
        obtain ⟨rfl, rfl, rfl⟩ := H
        obtain ⟨ASz5_0, cSz5_0, HGz5, hgz5, HSz5_0⟩ := HI0.out
        have hcz5_0 := cellS58_0 HGz5
        have hcz5_1 := cellS58_1 HGz5
        have hcz5_2 := cellS58_2 HGz5
        have hfz5_1 := blk_frozen HGz5 1
        have hfz5_2 := blk_frozen HGz5 2
        clear HGz5 hgz5
        have p115 : 0 ≤ (s0_1 : Int) := of_decide_eq_true (by first | (with_reducible assumption) | assumption)
        have q115 : s0_1 < (s0_0.length : Int) := of_decide_eq_true (by first | (with_reducible assumption) | assumption)
        obtain ⟨ad115, e115, hx115_0⟩ := Kd.at_int HSz5_0 s0_1 p115 q115
        cases e115
        replace hx115_0 := pw_cell_below HB.out hx115_0
        replace p115 := eq_true p115
        replace q115 := eq_true q115
        go_enter Try.func101, Try.ntmps101
        go_wp2
        repeat (go_quiet (fail); try go_wp2)
        go_ret
        exact ⟨by first | rfl | (simp [errW_none, errW_some] <;> rfl) | (simp [*, errW_none, errW_some] <;> rfl), by repeat (first | (with_reducible first | exact HI0.out | apply IsS58.alloc | apply IsS58.drewN | apply IsS58.drew | apply IsS58.set_1 | apply IsS58.set_2) | exact HI0.out), by repeat (first | (with_reducible first | exact HB.out | apply below_alloc | apply pw_below_drewN | apply below_drew1 | refine below_set ?_ (IsS58.ge HI0.out)) | exact HB.out), by repeat (first | (with_reducible first | exact HK.out | apply KeepBut.set_ | apply keep_drewN | apply keep_drew | apply keep_alloc) | exact HK.out)⟩
      · rw [if_neg c4] at H
        have c4b0 : decide ((wrap64 (s0_1 + 1)) ≤ (s0_0.length : Int)) = false := decide_eq_false c4
        clear c4
        simp only [Option.some.injEq, Prod.mk.injEq] at H
        obtain ⟨rfl, rfl, rfl⟩ := H
        obtain ⟨ASz6_0, cSz6_0, HGz6, hgz6, HSz6_0⟩ := HI0.out
        have hcz6_0 := cellS58_0 HGz6
        have hcz6_1 := cellS58_1 HGz6
        have hcz6_2 := cellS58_2 HGz6
        have hfz6_1 := blk_frozen HGz6 1
        have hfz6_2 := blk_frozen HGz6 2
        clear HGz6 hgz6
        have p115 : 0 ≤ (s0_1 : Int) := of_decide_eq_true (by first | (with_reducible assumption) | assumption)
        have q115 : s0_1 < (s0_0.length : Int) := of_decide_eq_true (by first | (with_reducible assumption) | assumption)
        obtain ⟨ad115, e115, hx115_0⟩ := Kd.at_int HSz6_0 s0_1 p115 q115
        cases e115
        replace hx115_0 := pw_cell_below HB.out hx115_0
        replace p115 := eq_true p115
        replace q115 := eq_true q115
        go_enter Try.func101, Try.ntmps101
        go_wp2
        repeat (go_quiet (fail); try go_wp2)
        go_ret
        exact ⟨by first | rfl | (simp [errW_none, errW_some] <;> rfl) | (simp [*, errW_none, errW_some] <;> rfl), by repeat (first | (with_reducible first | exact HI0.out | apply IsS58.alloc | apply IsS58.drewN | apply IsS58.drew | apply IsS58.set_1 | apply IsS58.set_2) | exact HI0.out), by repeat (first | (with_reducible first | exact HB.out | apply below_alloc | apply pw_below_drewN | apply below_drew1 | refine below_set ?_ (IsS58.ge HI0.out)) | exact HB.out), by repeat (first | (with_reducible first | exact HK.out | apply KeepBut.set_ | apply keep_drewN | apply keep_drew | apply keep_alloc) | exact HK.out)⟩
    · rw [if_neg c3] at H
      exact absurd H (by simp)
  · rw [if_neg c2] at H
    have c2b0 : decide (s0_1 < (s0_0.length : Int)) = false := decide_eq_false c2
    clear c2
    by_cases c7 : (wrap64 (s0_1 + 1)) ≤ (s0_0.length : Int)
    · rw [if_pos c7] at H
      have c7b0 : decide ((wrap64 (s0_1 + 1)) ≤ (s0_0.length : Int)) = true := decide_eq_true c7
      clear c7
      simp only [Option.some.injEq, Prod.mk.injEq] at H
      obtain ⟨rfl, rfl, rfl⟩ := H
      obtain ⟨ASz8_0, cSz8_0, HGz8, hgz8, HSz8_0⟩ := HI0.out
      have hcz8_0 := cellS58_0 HGz8
      have hcz8_1 := cellS58_1 HGz8
      have hcz8_2 := cellS58_2 HGz8
      have hfz8_1 := blk_frozen HGz8 1
      have hfz8_2 := blk_frozen HGz8 2
      clear HGz8 hgz8
      go_enter Try.func101, Try.ntmps101
      go_wp2
      repeat (go_quiet (fail); try go_wp2)
      go_ret
      exact ⟨by first | rfl | (simp [errW_none, errW_some] <;> rfl) | (simp [*, errW_none, errW_some] <;> rfl), by repeat (first | (with_reducible first | exact HI0.out | apply IsS58.alloc | apply IsS58.drewN | apply IsS58.drew | apply IsS58.set_1 | apply IsS58.set_2) | exact HI0.out), by repeat (first | (with_reducible first | exact HB.out | apply below_alloc | apply pw_below_drewN | apply below_drew1 | refine below_set ?_ (IsS58.ge HI0.out)) | exact HB.out), by repeat (first | (with_reducible first | exact HK.out | apply KeepBut.set_ | apply keep_drewN | apply keep_drew | apply keep_alloc) | exact HK.out)⟩
    · rw [if_neg c7] at H
      have c7b0 : decide ((wrap64 (s0_1 + 1)) ≤ (s0_0.length : Int)) = false := decide_eq_false c7
      clear c7
      simp only [Option.some.injEq, Prod.mk.injEq] at H
      obtain ⟨rfl, rfl, rfl⟩ := H
      obtain ⟨ASz9_0, cSz9_0, HGz9, hgz9, HSz9_0⟩ := HI0.out
      have hcz9_0 := cellS58_0 HGz9
      have hcz9_1 := cellS58_1 HGz9
      have hcz9_2 := cellS58_2 HGz9
      have hfz9_1 := blk_frozen HGz9 1
      have hfz9_2 := blk_frozen HGz9 2
      clear HGz9 hgz9
      go_enter Try.func101, Try.ntmps101
      go_wp2
      repeat (go_quiet (fail); try go_wp2)
      go_ret
      exact ⟨by first | rfl | (simp [errW_none, errW_some] <;> rfl) | (simp [*, errW_none, errW_some] <;> rfl), by repeat (first | (with_reducible first | exact HI0.out | apply IsS58.alloc | apply IsS58.drewN | apply IsS58.drew | apply IsS58.set_1 | apply IsS58.set_2) | exact HI0.out), by repeat (first | (with_reducible first | exact HB.out | apply below_alloc | apply pw_below_drewN | apply below_drew1 | refine below_set ?_ (IsS58.ge HI0.out)) | exact HB.out), by repeat (first | (with_reducible first | exact HK.out | apply KeepBut.set_ | apply keep_drewN | apply keep_drew | apply keep_alloc) | exact HK.out)⟩


end Go.Proofs.Ytofjndbpndpjjaa.Fn
namespace Go.Proofs.Ytofjndbpndpjjaa.Fn
open Go.RowKit Go.Proofs.YtofjndbpndpjjaaW.PrintWords Go.Proofs.YtofjndbpndpjjaaW.PrintLast Go.Proofs.YtofjndbpndpjjaaW.PrintMore
attribute [local go_sem] max2_int min2_int max_two min_two max_three min_three max_four min_four   -- for this text's walks alone
set_option linter.unusedVariables false
set_option linter.unusedSimpArgs false

/-! ### spec_l1Cur_pick: function 78 -/
def spec_l1Cur_pick.f (s0_0 : List Int) (s0_1 : Int) (s0_2 : Int) (a1 : Int) : Option (Int × Int × Int) := if a1 ≤ 1 then (some (0, s0_1, s0_2)) else ((spec_l1Cur_next.f s0_0 s0_1 s0_2).bind fun bt116 => (if a1 > 200 then ((spec_l1Cur_next.f s0_0 bt116.2.1 bt116.2.2).bind fun bt119 => (if a1 = 0 then (none) else (some (Int.tmod (wrap64 ((wrap64 (bt116.1 * 256)) + bt119.1)) a1, bt119.2.1, bt119.2.2)))) else (if a1 = 0 then (none) else (some (Int.tmod bt116.1 a1, bt116.2.1, bt116.2.2)))))
set_option maxHeartbeats 8000000 in
set_option maxRecDepth 100000 in
theorem spec_l1Cur_pick.calls (g : Nat) (s0_0 : List Int) (s0_1 : Int) (s0_2 : Int) (a1 : Int) (r1 : Int) (r2 : Int) (r3 : Int) (w0 w : World) (hI : IsS58 w0 w g s0_0 s0_1 s0_2) (hB : Below w0.heap.size w0 w) (h : spec_l1Cur_pick.f s0_0 s0_1 s0_2 a1 = some (r1, r2, r3)) :
  Calls Try.prog 78 #[.pointer (some ⟨g, 0, none⟩), .int .i64 a1] w fun e w' => e = .returned (.int .i64 r1) ∧ IsS58 w0 w' g s0_0 r2 r3 ∧ Below w0.heap.size w0 w' ∧ KeepBut w w' g none := by
 have HI0 := Aside0.mk hI
 have HK := Aside0.mk (KeepBut.refl w g none)
 have HL := Aside0.mk hB.size
 clear hI
 have HW0 := Aside0.mk hB.size
 have HB := Aside0.mk hB
 clear hB
 have H := h
 unfold spec_l1Cur_pick.f at H
 clear h
 by_cases c3 : a1 ≤ 1
 ·rw [if_pos c3] at H
  have c3b0 : decide (a1 ≤ 1) = true := decide_eq_true c3
  clear c3
  simp only [Option.some.injEq, Prod.mk.injEq] at H
  obtain ⟨rfl, rfl, rfl⟩ := H
  go_enter Try.func78, Try.ntmps78
  go_wp2
  go_ret
  exact ⟨eqr, IsS58.at HI0, atB HB, atK HK⟩
 ·rw [if_neg c3] at H
  have c3b0 : decide (a1 ≤ 1) = false := decide_eq_false c3
  clear c3
  replace H := Option.bind_eq_some_iff.mp H
  obtain ⟨⟨t116, t117, t118⟩, A40, H⟩ := H
  replace H : (if a1 > 200 then ((spec_l1Cur_next.f s0_0 t117 t118).bind fun bt119 => (if a1 = 0 then (none) else (some (Int.tmod (wrap64 ((wrap64 (t116 * 256)) + bt119.1)) a1, bt119.2.1, bt119.2.2)))) else (if a1 = 0 then (none) else (some (Int.tmod t116 a1, t117, t118)))) = some (r1, r2, r3) := H
  have A4 := Aside0.mk A40
  clear A40
  by_cases c5 : a1 > 200
  ·rw [if_pos c5] at H
   have c5b0 : decide (200 < a1) = true := decide_eq_true c5
   clear c5
   replace H := Option.bind_eq_some_iff.mp H
   obtain ⟨⟨t119, t120, t121⟩, A60, H⟩ := H
   replace H : (if a1 = 0 then (none) else (some (Int.tmod (wrap64 ((wrap64 (t116 * 256)) + t119)) a1, t120, t121))) = some (r1, r2, r3) := H
   have A6 := Aside0.mk A60
   clear A60
   by_cases c7 : a1 = 0
   ·rw [if_pos c7] at H
    exact absurd H (by simp)
   ·rw [if_neg c7] at H
    have c7b0 : (a1 == 0) = false := beq_eq_false_iff_ne.mpr c7
    have c7b1 : (a1 != 0) = true := bne_iff_ne.mpr c7
    simp only [Option.some.injEq, Prod.mk.injEq] at H
    obtain ⟨rfl, rfl, rfl⟩ := H
    go_enter Try.func78, Try.ntmps78
    go_wp2_with (first | ((with_reducible refine gate_callee (f := 101) rfl ?_); refine goesA (some 9) Try.func101 #[.pointer (some ⟨g, 0, none⟩)] ?_; (with_reducible refine (spec_l1Cur_next.calls g s0_0 s0_1 s0_2 t116 t117 t118 w0 _ ?side1 ?side2 A4.out).mono ?_); (case side1 => exact IsS58.at HI0); (case side2 => exact atB HB); rintro e w8 ⟨rfl, hi, hb, hk⟩; refine ⟨_, rfl, ?_⟩; replace HK := upK HK hk; replace HB := Aside0.mk (hb); replace HI0 := Aside0.mk (hi); (try clear hb); (try clear hb2); (try clear hk); (try clear hi)) | ((with_reducible refine gate_callee (f := 101) rfl ?_); refine goesA (some 15) Try.func101 #[.pointer (some ⟨g, 0, none⟩)] ?_; (with_reducible refine (spec_l1Cur_next.calls g s0_0 t117 t118 t119 t120 t121 w0 _ ?side1 ?side2 A6.out).mono ?_); (case side1 => exact IsS58.at HI0); (case side2 => exact atB HB); rintro e w9 ⟨rfl, hi, hb, hk⟩; refine ⟨_, rfl, ?_⟩; replace HK := upK HK hk; replace HB := Aside0.mk (hb); replace HI0 := Aside0.mk (hi); (try clear hb); (try clear hb2); (try clear hk); (try clear hi)))
    go_ret
    exact ⟨eqr, IsS58.at HI0, atB HB, atK HK⟩
  ·rw [if_neg c5] at H
   have c5b0 : decide (200 < a1) = false := decide_eq_false c5
   clear c5
   by_cases c10 : a1 = 0
   ·rw [if_pos c10] at H
    exact absurd H (by simp)
   ·rw [if_neg c10] at H
    have c10b0 : (a1 == 0) = false := beq_eq_false_iff_ne.mpr c10
    have c10b1 : (a1 != 0) = true := bne_iff_ne.mpr c10
    simp only [Option.some.injEq, Prod.mk.injEq] at H
    obtain ⟨rfl, rfl, rfl⟩ := H
    go_enter Try.func78, Try.ntmps78
    go_wp2_with (first | ((with_reducible refine gate_callee (f := 101) rfl ?_); refine goesA (some 9) Try.func101 #[.pointer (some ⟨g, 0, none⟩)] ?_; (with_reducible refine (spec_l1Cur_next.calls g s0_0 s0_1 s0_2 t116 t117 t118 w0 _ ?side1 ?side2 A4.out).mono ?_); (case side1 => exact IsS58.at HI0); (case side2 => exact atB HB); rintro e w11 ⟨rfl, hi, hb, hk⟩; refine ⟨_, rfl, ?_⟩; replace HK := upK HK hk; replace HB := Aside0.mk (hb); replace HI0 := Aside0.mk (hi); (try clear hb); (try clear hb2); (try clear hk); (try clear hi)))
    go_ret
    exact ⟨eqr, IsS58.at HI0, atB HB, atK HK⟩


end Go.Proofs.Ytofjndbpndpjjaa.Fn
namespace Go.Proofs.Ytofjndbpndpjjaa.Fn
open Go.RowKit Go.Proofs.YtofjndbpndpjjaaW.PrintWords Go.Proofs.YtofjndbpndpjjaaW.PrintLast Go.Proofs.YtofjndbpndpjjaaW.PrintMore
attribute [local go_sem] max2_int min2_int max_two min_two max_three min_three max_four min_four   -- for this text's walks alone
set_option linter.unusedVariables false
set_option linter.unusedSimpArgs false

/-! ### laws_big: function 5 -/
def laws_big.f (l0 : List Int) (l1 : List Int) : Option (Bool) := if (l0.length : Int) > 1048576 then (some true) else (some (decide ((l1.length : Int) > (wrap64 (1048576 - (l0.length : Int))))))
set_option maxHeartbeats 8000000 in
set_option maxRecDepth 100000 in
theorem laws_big.calls (A0 : Option Addr) (c0 : Nat) (l0 : List Int) (A1 : Option Addr) (c1 : Nat) (l1 : List Int) (r : Bool) (w : World) (hr0 : Kd.C (Kd.int .u8) w A0 l0.length l0) (hc0 : l0.length ≤ c0) (hr1 : Kd.C (Kd.int .u8) w A1 l1.length l1) (hc1 : l1.length ≤ c1) (h : laws_big.f l0 l1 = some r) :
  Calls Try.prog 5 #[.slice A0 l0.length c0, .slice A1 l1.length c1] w fun e w' => e = .returned (.bool r) ∧ Drawn0 w w' := by
 have HR0 := Aside0.mk hr0
 have HC0 := Aside0.mk hc0
 clear hr0 hc0
 have HR1 := Aside0.mk hr1
 have HC1 := Aside0.mk hc1
 clear hr1 hc1
 have H := h
 unfold laws_big.f at H
 clear h
 by_cases c3 : (l0.length : Int) > 1048576
 ·rw [if_pos c3] at H
  have c3b0 : decide (1048576 < (l0.length : Int)) = true := decide_eq_true c3
  have c3b1 : decide (1048576 < l0.length) = true := decide_eq_true (by omega)
  clear c3
  obtain rfl := Option.some.inj H
  go_enter Try.func5, Try.ntmps5
  go_wp2
  go_ret
  exact ⟨by first | rfl | (simp; done) | (simp [*]; done), by repeat (first | exact Drawn0.refl _ | apply Drawn0.step)⟩
 ·rw [if_neg c3] at H
  have c3b0 : decide (1048576 < (l0.length : Int)) = false := decide_eq_false c3
  have c3b1 : decide (1048576 < l0.length) = false := decide_eq_false (by omega)
  clear c3
  obtain rfl := Option.some.inj H
  go_enter Try.func5, Try.ntmps5
  go_wp2
  go_ret
  exact ⟨by first | rfl | (simp; done) | (simp [*]; done), by repeat (first | exact Drawn0.refl _ | apply Drawn0.step)⟩


end Go.Proofs.Ytofjndbpndpjjaa.Fn
namespace Go.Proofs.Ytofjndbpndpjjaa.Fn
open Go.RowKit Go.Proofs.YtofjndbpndpjjaaW.PrintWords Go.Proofs.YtofjndbpndpjjaaW.PrintLast Go.Proofs.YtofjndbpndpjjaaW.PrintMore
attribute [local go_sem] max2_int min2_int max_two min_two max_three min_three max_four min_four   -- for this text's walks alone
set_option linter.unusedVariables false
set_option linter.unusedSimpArgs false

/-! ### impl_IsRuler: function 22 -/
mutual
def impl_IsRuler.j0 : Nat → List Int → Bool → Option (Bool)
 | 0, _, _ => none
 | k + 1, x0, x26 => if x26 = true then (some false) else (impl_IsRuler.l0 k x0 1)
def impl_IsRuler.l0 : Nat → List Int → Int → Option (Bool)
 | 0, _, _ => none
 | k + 1, x0, x3 => if x3 < (x0.length : Int) then (if 0 ≤ (wrap64 (x3 - 1)) then (if (wrap64 (x3 - 1)) < (x0.length : Int) then (if 0 ≤ x3 then (if (rd x0 (wrap64 (x3 - 1))) ≥ (rd x0 x3) then (some false) else (impl_IsRuler.l0 k x0 (wrap64 (x3 + 1)))) else (none)) else (none)) else (none)) else (some true)
end
def impl_IsRuler.f (k : Nat) (l0 : List Int) : Option (Bool) := if (l0.length : Int) < 1 then (impl_IsRuler.j0 k l0 true) else (if (l0.length : Int) > 12 then (impl_IsRuler.j0 k l0 true) else (if 0 < (l0.length : Int) then (if (rd l0 0) = 0 then (if 0 ≤ (wrap64 ((l0.length : Int) - 1)) then (if (wrap64 ((l0.length : Int) - 1)) < (l0.length : Int) then (impl_IsRuler.j0 k l0 (decide ((rd l0 (wrap64 ((l0.length : Int) - 1))) > 60))) else (none)) else (none)) else (impl_IsRuler.j0 k l0 true)) else (none)))
theorem impl_IsRuler.mono_l : ∀ k, (∀ y0 y1, LeO (impl_IsRuler.j0 k y0 y1) (impl_IsRuler.j0 (k + 1) y0 y1)) ∧ (∀ y0 y1, LeO (impl_IsRuler.l0 k y0 y1) (impl_IsRuler.l0 (k + 1) y0 y1))
 | 0 => ⟨fun _ _ r h => by simp [impl_IsRuler.j0] at h, fun _ _ r h => by simp [impl_IsRuler.l0] at h⟩
 | k + 1 => by
  obtain ⟨ih0, ih1⟩ := impl_IsRuler.mono_l k
  refine ⟨?_, ?_⟩
  ·intro y0 y1
   unfold impl_IsRuler.j0
   repeat' (first | (with_reducible first | exact ih1 _ _ | exact LeO.refl _ | exact LeO.none _ | refine LeO.ite ?_ ?_ | refine LeO.bind ?_ (fun _ => ?_)) | exact ih1 _ _ | exact LeO.none _ | refine LeO.ite ?_ ?_ | refine LeO.bind ?_ (fun _ => ?_))
  ·intro y0 y1
   unfold impl_IsRuler.l0
   repeat' (first | (with_reducible first | exact ih1 _ _ | exact LeO.refl _ | exact LeO.none _ | refine LeO.ite ?_ ?_ | refine LeO.bind ?_ (fun _ => ?_)) | exact ih1 _ _ | exact LeO.none _ | refine LeO.ite ?_ ?_ | refine LeO.bind ?_ (fun _ => ?_))
theorem impl_IsRuler.mono : ∀ a0 k, LeO (impl_IsRuler.f k a0) (impl_IsRuler.f (k + 1) a0) := by
 intro a0 k
 obtain ⟨ih0, ih1⟩ := impl_IsRuler.mono_l k
 unfold impl_IsRuler.f
 repeat' (first | (with_reducible first | exact ih0 _ _ | exact LeO.refl _ | exact LeO.none _ | refine LeO.ite ?_ ?_ | refine LeO.bind ?_ (fun _ => ?_)) | exact ih0 _ _ | exact LeO.none _ | refine LeO.ite ?_ ?_ | refine LeO.bind ?_ (fun _ => ?_))
set_option maxHeartbeats 8000000 in
set_option maxRecDepth 100000 in
theorem impl_IsRuler.calls (k : Nat) (A0 : Option Addr) (c0 : Nat) (l0 : List Int) (r : Bool) (w : World) (hr0 : Kd.C (Kd.int .i64) w A0 l0.length l0) (hc0 : l0.length ≤ c0) (h : impl_IsRuler.f k l0 = some r) :
  Calls Try.prog 22 #[.slice A0 l0.length c0] w fun e w' => e = .returned (.bool r) ∧ Drawn0 w w' := by
 have HR0 := Aside0.mk hr0
 have HC0 := Aside0.mk hc0
 clear hr0 hc0
 have H := h
 unfold impl_IsRuler.f at H
 clear h
 have HC2 := Aside0.mk H
 clear H
 go_enter Try.func22, Try.ntmps22
 go_upto_region 1 with (fail)
 repeat (go_quiet (fail); go_upto_region 1 with (fail))
 go_cut [26] (fun v26 wc => ∃ (kq : Nat) (x26_1 : Bool), v26 = .bool x26_1 ∧ Aside0 (impl_IsRuler.j0 kq l0 x26_1 = some r) ∧ Aside0 (kq ≤ k) ∧ Drawn0 w wc)
 case first =>
  have H := HC2.out
  clear HC2
  by_cases c3 : (l0.length : Int) < 1
  ·rw [if_pos c3] at H
   have c3b0 : decide ((l0.length : Int) < 1) = true := decide_eq_true c3
   have c3b1 : decide (l0.length < 1) = true := decide_eq_true (by omega)
   clear c3
   (first | rw [c3b0] | (simp only [i64_w, i32_w]; rw [c3b0]) | skip)
   have H' := Aside0.mk H
   clear H
   go_wp2
   repeat (go_quiet (fail); try go_wp2)
   go_meet
   case rel => exact ⟨_, (true), eqd, H', ⟨leD⟩, by repeat (first | exact Drawn0.refl _ | apply Drawn0.step)⟩
  ·rw [if_neg c3] at H
   have c3b0 : decide ((l0.length : Int) < 1) = false := decide_eq_false c3
   have c3b1 : decide (l0.length < 1) = false := decide_eq_false (by omega)
   clear c3
   (first | rw [c3b0] | (simp only [i64_w, i32_w]; rw [c3b0]) | skip)
   by_cases c4 : (l0.length : Int) > 12
   ·rw [if_pos c4] at H
    have c4b0 : decide (12 < (l0.length : Int)) = true := decide_eq_true c4
    have c4b1 : decide (12 < l0.length) = true := decide_eq_true (by omega)
    clear c4
    have H' := Aside0.mk H
    clear H
    go_wp2
    repeat (go_quiet (fail); try go_wp2)
    go_meet
    case rel => exact ⟨_, (true), eqd, H', ⟨leD⟩, by repeat (first | exact Drawn0.refl _ | apply Drawn0.step)⟩
   ·rw [if_neg c4] at H
    have c4b0 : decide (12 < (l0.length : Int)) = false := decide_eq_false c4
    have c4b1 : decide (12 < l0.length) = false := decide_eq_false (by omega)
    clear c4
    by_cases c5 : 0 < (l0.length : Int)
    ·rw [if_pos c5] at H
     have c5b0 : decide (0 < (l0.length : Int)) = true := decide_eq_true c5
     have c5b1 : decide (0 < l0.length) = true := decide_eq_true (by omega)
     clear c5
     by_cases c6 : (rd l0 0) = 0
     ·rw [if_pos c6] at H
      have c6b0 : ((rd l0 0) == 0) = true := beq_iff_eq.mpr c6
      have c6b1 : ((rd l0 0) != 0) = false := bne_eq_false_iff_eq.mpr c6
      clear c6
      obtain ⟨ji7, hji7⟩ : ∃ j_ : Int, (wrap64 ((l0.length : Int) - 1)) = j_ := ⟨_, rfl⟩
      replace H : (if 0 ≤ (ji7) then (if (ji7) < (l0.length : Int) then (impl_IsRuler.j0 k l0 (decide ((rd l0 (ji7)) > 60))) else (none)) else (none)) = some r := by first | (rw [hji7] at H; exact H) | (simp only [hji7] at H ⊢; exact H)
      have hji7w : (IntKind.i64.wrap ((l0.length : Int) - 1)) = ji7 := (i64_w _).trans hji7
      by_cases c8 : 0 ≤ (ji7)
      ·rw [if_pos c8] at H
       have c8b0 : decide (0 ≤ (ji7)) = true := decide_eq_true c8
       clear c8
       by_cases c9 : (ji7) < (l0.length : Int)
       ·rw [if_pos c9] at H
        have c9b0 : decide ((ji7) < (l0.length : Int)) = true := decide_eq_true c9
        clear c9
        have H' := Aside0.mk H
        clear H
        have p184 : 0 ≤ (0 : Int) := (by omega)
        have q184 : 0 < (l0.length : Int) := ofd
        obtain ⟨ad184, e184, hx184_0⟩ := Kd.at_int HR0.out 0 p184 q184
        cases e184
        have qi184 : (0 < l0.length) = True := eq_true (by omega)
        (try rw [show ((0 : Int)).toNat = 0 from rfl] at hx184_0)
        (try rw [Addr.add_zero'] at hx184_0)
        replace p184 := eq_true p184
        replace q184 := eq_true q184
        have p185 : 0 ≤ ((ji7) : Int) := ofd
        have q185 : (ji7) < (l0.length : Int) := ofd
        obtain ⟨ad185, e185, hx185_0⟩ := Kd.at_int HR0.out (ji7) p185 q185
        obtain rfl : ad184 = ad185 := (by injection e185)
        replace p185 := eq_true p185
        replace q185 := eq_true q185
        go_wp2
        repeat (go_quiet (fail); try go_wp2)
        go_meet
        case rel => exact ⟨_, (decide ((rd l0 (ji7)) > 60)), (by first | rfl | (simp; done) | (simp only [← hji7] <;> (first | rfl | simp)) | (simp [*]; done)), H', ⟨leD⟩, by repeat (first | exact Drawn0.refl _ | apply Drawn0.step)⟩
       ·rw [if_neg c9] at H
        exact absurd H (by simp)
      ·rw [if_neg c8] at H
       exact absurd H (by simp)
     ·rw [if_neg c6] at H
      have c6b0 : ((rd l0 0) == 0) = false := beq_eq_false_iff_ne.mpr c6
      have c6b1 : ((rd l0 0) != 0) = true := bne_iff_ne.mpr c6
      have H' := Aside0.mk H
      clear H
      have p184 : 0 ≤ (0 : Int) := (by omega)
      have q184 : 0 < (l0.length : Int) := ofd
      obtain ⟨ad184, e184, hx184_0⟩ := Kd.at_int HR0.out 0 p184 q184
      cases e184
      have qi184 : (0 < l0.length) = True := eq_true (by omega)
      (try rw [show ((0 : Int)).toNat = 0 from rfl] at hx184_0)
      (try rw [Addr.add_zero'] at hx184_0)
      replace p184 := eq_true p184
      replace q184 := eq_true q184
      go_wp2
      repeat (go_quiet (fail); try go_wp2)
      go_meet
      case rel => exact ⟨_, (true), eqd, H', ⟨leD⟩, by repeat (first | exact Drawn0.refl _ | apply Drawn0.step)⟩
    ·rw [if_neg c5] at H
     exact absurd H (by simp)
 case rest =>
  clear HC2
  try clear p1
  try clear q1
  try clear hx1
  try clear qi1
  try clear c2
  try clear p2
  try clear c3
  try clear c3b0
  try clear c3b1
  try clear c4
  try clear c4b0
  try clear c4b1
  try clear c5
  try clear c5b0
  try clear c5b1
  try clear c6
  try clear c6b0
  try clear c6b1
  try clear p6
  try clear c8
  try clear c8b0
  try clear c9
  try clear c9b0
  try clear hx184_0
  try clear hx185_0
  try clear p184
  try clear p185
  try clear q184
  try clear q185
  obtain ⟨kq, x26_1, rfl, HA, HJ1, ⟨mc1, rfl⟩⟩ := hcut
  cases kq with
  | zero => exact absurd HA.out (by simp [impl_IsRuler.j0])
  | succ kj1 =>
   have H := HA.out
   clear HA
   simp only [impl_IsRuler.j0] at H
   by_cases c10 : x26_1 = true
   ·subst c10
    have H1 : (some false) = some r := by rw [if_pos rfl] at H; exact H
    clear H
    have H := H1
    clear H1
    obtain rfl := Option.some.inj H
    go_wp2
    repeat (go_quiet (fail); try go_wp2)
    go_ret
    exact ⟨by first | rfl | (simp; done) | (simp [*]; done), by repeat (first | exact Drawn0.refl _ | apply Drawn0.step)⟩
   ·replace c10 := Bool.eq_false_iff.mpr c10
    subst c10
    have H1 : (impl_IsRuler.l0 kj1 l0 1) = some r := by rw [if_neg (show ¬ (false = true) by decide)] at H; exact H
    clear H
    have H := H1
    clear H1
    have H' := Aside0.mk H
    clear H
    go_wp2
    repeat (go_quiet (fail); try go_wp2)
    go_loopg [3] kj1 (fun kq v3 w' => ∃ (x3_2 : Int), v3 = .int .i64 x3_2 ∧ Aside0 (impl_IsRuler.l0 kq l0 x3_2 = some r) ∧ Aside0 (kq ≤ kj1) ∧ Drawn0 w w')
    case atStart => exact ⟨(1), eqd, H', ⟨Nat.le_refl _⟩, by repeat (first | exact Drawn0.refl _ | apply Drawn0.step)⟩
    case round =>
     clear H'
     try clear c1
     try clear p1
     try clear q1
     try clear hx1
     try clear qi1
     try clear c2
     try clear p2
     try clear c3
     try clear c3b0
     try clear c3b1
     try clear c4
     try clear c4b0
     try clear c4b1
     try clear c5
     try clear c5b0
     try clear c5b1
     try clear c6
     try clear c6b0
     try clear c6b1
     try clear p6
     try clear c8
     try clear c8b0
     try clear c9
     try clear c9b0
     try clear c10
     try clear hx184_0
     try clear hx185_0
     try clear p1
     try clear p184
     try clear p185
     try clear p2
     try clear p6
     try clear q1
     try clear q184
     try clear q185
     obtain ⟨x3_2, rfl, HA, HK2, ⟨m2, rfl⟩⟩ := hrel
     cases gk with
     | zero => exact absurd HA.out (by simp [impl_IsRuler.l0])
     | succ k2 =>
      have H := HA.out
      clear HA
      simp only [impl_IsRuler.l0] at H
      by_cases c11 : x3_2 < (l0.length : Int)
      ·rw [if_pos c11] at H
       have c11b0 : decide (x3_2 < (l0.length : Int)) = true := decide_eq_true c11
       clear c11
       obtain ⟨ji12, hji12⟩ : ∃ j_ : Int, (wrap64 (x3_2 - 1)) = j_ := ⟨_, rfl⟩
       replace H : (if 0 ≤ (ji12) then (if (ji12) < (l0.length : Int) then (if 0 ≤ x3_2 then (if (rd l0 (ji12)) ≥ (rd l0 x3_2) then (some false) else (impl_IsRuler.l0 k2 l0 (wrap64 (x3_2 + 1)))) else (none)) else (none)) else (none)) = some r := by first | (rw [hji12] at H; exact H) | (simp only [hji12] at H ⊢; exact H)
       have hji12w : (IntKind.i64.wrap (x3_2 - 1)) = ji12 := (i64_w _).trans hji12
       by_cases c13 : 0 ≤ (ji12)
       ·rw [if_pos c13] at H
        have c13b0 : decide (0 ≤ (ji12)) = true := decide_eq_true c13
        clear c13
        by_cases c14 : (ji12) < (l0.length : Int)
        ·rw [if_pos c14] at H
         have c14b0 : decide ((ji12) < (l0.length : Int)) = true := decide_eq_true c14
         clear c14
         by_cases c15 : 0 ≤ x3_2
         ·rw [if_pos c15] at H
          have c15b0 : decide (0 ≤ x3_2) = true := decide_eq_true c15
          clear c15
          by_cases c16 : (rd l0 (ji12)) ≥ (rd l0 x3_2)
          ·rw [if_pos c16] at H
           have c16b0 : decide ((rd l0 x3_2) ≤ (rd l0 (ji12))) = true := decide_eq_true c16
           clear c16
           obtain rfl := Option.some.inj H
           have p186 : 0 ≤ ((ji12) : Int) := ofd
           have q186 : (ji12) < (l0.length : Int) := ofd
           obtain ⟨ad186, e186, hx186_0⟩ := Kd.at_int HR0.out (ji12) p186 q186
           cases e186
           replace p186 := eq_true p186
           replace q186 := eq_true q186
           have p187 : 0 ≤ (x3_2 : Int) := ofd
           have q187 : x3_2 < (l0.length : Int) := ofd
           obtain ⟨ad187, e187, hx187_0⟩ := Kd.at_int HR0.out x3_2 p187 q187
           obtain rfl : ad186 = ad187 := (by injection e187)
           replace p187 := eq_true p187
           replace q187 := eq_true q187
           go_wp2
           repeat (go_quiet (fail); try go_wp2)
           go_ret
           exact ⟨by first | rfl | (simp; done) | (simp only [← hji12] <;> (first | rfl | simp)) | (simp [*]; done), by repeat (first | exact Drawn0.refl _ | apply Drawn0.step)⟩
          ·rw [if_neg c16] at H
           have c16b0 : decide ((rd l0 x3_2) ≤ (rd l0 (ji12))) = false := decide_eq_false c16
           clear c16
           have H' := Aside0.mk H
           clear H
           have p186 : 0 ≤ ((ji12) : Int) := ofd
           have q186 : (ji12) < (l0.length : Int) := ofd
           obtain ⟨ad186, e186, hx186_0⟩ := Kd.at_int HR0.out (ji12) p186 q186
           cases e186
           replace p186 := eq_true p186
           replace q186 := eq_true q186
           have p187 : 0 ≤ (x3_2 : Int) := ofd
           have q187 : x3_2 < (l0.length : Int) := ofd
           obtain ⟨ad187, e187, hx187_0⟩ := Kd.at_int HR0.out x3_2 p187 q187
           obtain rfl : ad186 = ad187 := (by injection e187)
           replace p187 := eq_true p187
           replace q187 := eq_true q187
           go_wp2
           repeat (go_quiet (fail); try go_wp2)
           first | go_roundg k2 | ((try subst hji12); go_roundg k2)
           case measure => have := HJ1.out; have := HK2.out; omega
           case rel => exact ⟨(wrap64 (x3_2 + 1)), eqd, H', ⟨by have := HJ1.out; have := HK2.out; omega⟩, by repeat (first | exact Drawn0.refl _ | apply Drawn0.step)⟩
         ·rw [if_neg c15] at H
          exact absurd H (by simp)
        ·rw [if_neg c14] at H
         exact absurd H (by simp)
       ·rw [if_neg c13] at H
        exact absurd H (by simp)
      ·rw [if_neg c11] at H
       have c11b0 : decide (x3_2 < (l0.length : Int)) = false := decide_eq_false c11
       clear c11
       obtain rfl := Option.some.inj H
       go_wp2
       repeat (go_quiet (fail); try go_wp2)
       go_ret
       exact ⟨by first | rfl | (simp; done) | (simp [*]; done), by repeat (first | exact Drawn0.refl _ | apply Drawn0.step)⟩

noncomputable def impl_IsRuler.J0 (x0 : List Int) (x26 : Bool) : Option (Bool) := lim fun k => impl_IsRuler.j0 k x0 x26
theorem impl_IsRuler.J0_lim (x0 : List Int) (x26 : Bool) : Lim (fun k => impl_IsRuler.j0 k x0 x26) (impl_IsRuler.J0 x0 x26) := Lim.of fun k => (impl_IsRuler.mono_l k).1 x0 x26
noncomputable def impl_IsRuler.L0 (x0 : List Int) (x3 : Int) : Option (Bool) := lim fun k => impl_IsRuler.l0 k x0 x3
theorem impl_IsRuler.L0_lim (x0 : List Int) (x3 : Int) : Lim (fun k => impl_IsRuler.l0 k x0 x3) (impl_IsRuler.L0 x0 x3) := Lim.of fun k => (impl_IsRuler.mono_l k).2 x0 x3
noncomputable def impl_IsRuler.F (l0 : List Int) : Option (Bool) := lim fun k => impl_IsRuler.f k l0
theorem impl_IsRuler.F_lim (l0 : List Int) : Lim (fun k => impl_IsRuler.f k l0) (impl_IsRuler.F l0) := Lim.of fun k => impl_IsRuler.mono l0 k
theorem impl_IsRuler.J0_eq (x0 : List Int) (x26 : Bool) : impl_IsRuler.J0 x0 x26 = (if x26 = true then (some false) else (impl_IsRuler.L0 x0 1)) :=
 Lim.step (f := fun k => impl_IsRuler.j0 (k + 1) x0 x26) (impl_IsRuler.J0_lim x0 x26) (fun _ => rfl) (by
  simp only [impl_IsRuler.j0]
  repeat' (first | (with_reducible first | exact Lim.const _ | exact impl_IsRuler.L0_lim _ _ | refine Lim.ite ?_ ?_ | refine Lim.bind ?_ (fun _ => ?_))))
theorem impl_IsRuler.L0_eq (x0 : List Int) (x3 : Int) : impl_IsRuler.L0 x0 x3 = (if x3 < (x0.length : Int) then (if 0 ≤ (wrap64 (x3 - 1)) then (if (wrap64 (x3 - 1)) < (x0.length : Int) then (if 0 ≤ x3 then (if (rd x0 (wrap64 (x3 - 1))) ≥ (rd x0 x3) then (some false) else (impl_IsRuler.L0 x0 (wrap64 (x3 + 1)))) else (none)) else (none)) else (none)) else (some true)) :=
 Lim.step (f := fun k => impl_IsRuler.l0 (k + 1) x0 x3) (impl_IsRuler.L0_lim x0 x3) (fun _ => rfl) (by
  simp only [impl_IsRuler.l0]
  repeat' (first | (with_reducible first | exact Lim.const _ | exact impl_IsRuler.L0_lim _ _ | refine Lim.ite ?_ ?_ | refine Lim.bind ?_ (fun _ => ?_))))
theorem impl_IsRuler.F_eq (l0 : List Int) : impl_IsRuler.F l0 = (if (l0.length : Int) < 1 then (impl_IsRuler.J0 l0 true) else (if (l0.length : Int) > 12 then (impl_IsRuler.J0 l0 true) else (if 0 < (l0.length : Int) then (if (rd l0 0) = 0 then (if 0 ≤ (wrap64 ((l0.length : Int) - 1)) then (if (wrap64 ((l0.length : Int) - 1)) < (l0.length : Int) then (impl_IsRuler.J0 l0 (decide ((rd l0 (wrap64 ((l0.length : Int) - 1))) > 60))) else (none)) else (none)) else (impl_IsRuler.J0 l0 true)) else (none)))) :=
 Lim.unique (impl_IsRuler.F_lim l0) (by
  unfold impl_IsRuler.f
  repeat' (first | (with_reducible first | exact Lim.const _ | exact impl_IsRuler.J0_lim _ _ | refine Lim.ite ?_ ?_ | refine Lim.bind ?_ (fun _ => ?_))))

end Go.Proofs.Ytofjndbpndpjjaa.Fn
namespace Go.Proofs.Ytofjndbpndpjjaa.Fn
open Go.RowKit Go.Proofs.YtofjndbpndpjjaaW.PrintWords Go.Proofs.YtofjndbpndpjjaaW.PrintLast Go.Proofs.YtofjndbpndpjjaaW.PrintMore
attribute [local go_sem] max2_int min2_int max_two min_two max_three min_three max_four min_four   -- for this text's walks alone
set_option linter.unusedVariables false
set_option linter.unusedSimpArgs false

/-! ### slices_Index_int_int: function 98 -/
def slices_Index_int_int.l0 : Nat → List Int → Int → Int → Int → Option (Int)
 | 0, _, _, _, _ => none
 | k + 1, x0, x1, x7, x8 => if x8 < x7 then (if 0 ≤ x8 then (if x8 < (x0.length : Int) then (if x1 = (rd x0 x8) then (some x8) else (slices_Index_int_int.l0 k x0 x1 x7 (wrap64 (x8 + 1)))) else (none)) else (none)) else (some (-1))
def slices_Index_int_int.f (k : Nat) (l0 : List Int) (a1 : Int) : Option (Int) := slices_Index_int_int.l0 k l0 a1 (l0.length : Int) 0
theorem slices_Index_int_int.mono_l : ∀ k, (∀ y0 y1 y2 y3, LeO (slices_Index_int_int.l0 k y0 y1 y2 y3) (slices_Index_int_int.l0 (k + 1) y0 y1 y2 y3))
 | 0 => fun _ _ _ _ r h => by simp [slices_Index_int_int.l0] at h
 | k + 1 => by
  have ih0 := slices_Index_int_int.mono_l k
  ·intro y0 y1 y2 y3
   unfold slices_Index_int_int.l0
   repeat' (first | (with_reducible first | exact ih0 _ _ _ _ | exact LeO.refl _ | exact LeO.none _ | refine LeO.ite ?_ ?_ | refine LeO.bind ?_ (fun _ => ?_)) | exact ih0 _ _ _ _ | exact LeO.none _ | refine LeO.ite ?_ ?_ | refine LeO.bind ?_ (fun _ => ?_))
theorem slices_Index_int_int.mono : ∀ a0 a1 k, LeO (slices_Index_int_int.f k a0 a1) (slices_Index_int_int.f (k + 1) a0 a1) := by
 intro a0 a1 k
 have ih0 := slices_Index_int_int.mono_l k
 unfold slices_Index_int_int.f
 repeat' (first | (with_reducible first | exact ih0 _ _ _ _ | exact LeO.refl _ | exact LeO.none _ | refine LeO.ite ?_ ?_ | refine LeO.bind ?_ (fun _ => ?_)) | exact ih0 _ _ _ _ | exact LeO.none _ | refine LeO.ite ?_ ?_ | refine LeO.bind ?_ (fun _ => ?_))
set_option maxHeartbeats 8000000 in
set_option maxRecDepth 100000 in
theorem slices_Index_int_int.calls (k : Nat) (A0 : Option Addr) (c0 : Nat) (l0 : List Int) (a1 : Int) (r : Int) (w : World) (hr0 : Kd.C (Kd.int .i64) w A0 l0.length l0) (hc0 : l0.length ≤ c0) (h : slices_Index_int_int.f k l0 a1 = some r) :
  Calls Try.prog 98 #[.slice A0 l0.length c0, .int .i64 a1] w fun e w' => e = .returned (.int .i64 r) ∧ Drawn0 w w' := by
 have HR0 := Aside0.mk hr0
 have HC0 := Aside0.mk hc0
 clear hr0 hc0
 have H := h
 unfold slices_Index_int_int.f at H
 clear h
 have H' := Aside0.mk H
 clear H
 go_enter Try.func98, Try.ntmps98
 go_wp2
 go_loopg [8] k (fun kq v8 w' => ∃ (x8_1 : Int), v8 = .int .i64 x8_1 ∧ Aside0 (slices_Index_int_int.l0 kq l0 a1 (l0.length : Int) x8_1 = some r) ∧ Aside0 (kq ≤ k) ∧ Drawn0 w w')
 case atStart => exact ⟨(0), eqd, H', ⟨Nat.le_refl _⟩, by repeat (first | exact Drawn0.refl _ | apply Drawn0.step)⟩
 case round =>
  clear H'
  try clear p2
  obtain ⟨x8_1, rfl, HA, HK1, ⟨m1, rfl⟩⟩ := hrel
  cases gk with
  | zero => exact absurd HA.out (by simp [slices_Index_int_int.l0])
  | succ k1 =>
   have H := HA.out
   clear HA
   simp only [slices_Index_int_int.l0] at H
   by_cases c3 : x8_1 < (l0.length : Int)
   ·rw [if_pos c3] at H
    have c3b0 : decide (x8_1 < (l0.length : Int)) = true := decide_eq_true c3
    clear c3
    by_cases c4 : 0 ≤ x8_1
    ·rw [if_pos c4] at H
     have c4b0 : decide (0 ≤ x8_1) = true := decide_eq_true c4
     clear c4
     by_cases c5 : x8_1 < (l0.length : Int)
     ·rw [if_pos c5] at H
      have c5b0 : decide (x8_1 < (l0.length : Int)) = true := decide_eq_true c5
      clear c5
      by_cases c6 : a1 = (rd l0 x8_1)
      ·rw [if_pos c6] at H
       have c6b0 : (a1 == (rd l0 x8_1)) = true := beq_iff_eq.mpr c6
       have c6b1 : (a1 != (rd l0 x8_1)) = false := bne_eq_false_iff_eq.mpr c6
       clear c6
       obtain rfl := Option.some.inj H
       have p248 : 0 ≤ (x8_1 : Int) := ofd
       have q248 : x8_1 < (l0.length : Int) := ofd
       obtain ⟨ad248, e248, hx248_0⟩ := Kd.at_int HR0.out x8_1 p248 q248
       cases e248
       replace p248 := eq_true p248
       replace q248 := eq_true q248
       go_wp2
       go_ret
       exact ⟨by first | rfl | (simp; done) | (simp [*]; done), by repeat (first | exact Drawn0.refl _ | apply Drawn0.step)⟩
      ·rw [if_neg c6] at H
       have c6b0 : (a1 == (rd l0 x8_1)) = false := beq_eq_false_iff_ne.mpr c6
       have c6b1 : (a1 != (rd l0 x8_1)) = true := bne_iff_ne.mpr c6
       have H' := Aside0.mk H
       clear H
       have p248 : 0 ≤ (x8_1 : Int) := ofd
       have q248 : x8_1 < (l0.length : Int) := ofd
       obtain ⟨ad248, e248, hx248_0⟩ := Kd.at_int HR0.out x8_1 p248 q248
       cases e248
       replace p248 := eq_true p248
       replace q248 := eq_true q248
       go_wp2
       go_roundg k1
       case measure => have := HK1.out; omega
       case rel => exact ⟨(wrap64 (x8_1 + 1)), eqd, H', ⟨by have := HK1.out; omega⟩, by repeat (first | exact Drawn0.refl _ | apply Drawn0.step)⟩
     ·rw [if_neg c5] at H
      exact absurd H (by simp)
    ·rw [if_neg c4] at H
     exact absurd H (by simp)
   ·rw [if_neg c3] at H
    have c3b0 : decide (x8_1 < (l0.length : Int)) = false := decide_eq_false c3
    clear c3
    obtain rfl := Option.some.inj H
    go_wp2
    go_ret
    exact ⟨by first | rfl | (simp; done) | (simp [*]; done), by repeat (first | exact Drawn0.refl _ | apply Drawn0.step)⟩

noncomputable def slices_Index_int_int.L0 (x0 : List Int) (x1 : Int) (x7 : Int) (x8 : Int) : Option (Int) := lim fun k => slices_Index_int_int.l0 k x0 x1 x7 x8
theorem slices_Index_int_int.L0_lim (x0 : List Int) (x1 : Int) (x7 : Int) (x8 : Int) : Lim (fun k => slices_Index_int_int.l0 k x0 x1 x7 x8) (slices_Index_int_int.L0 x0 x1 x7 x8) := Lim.of fun k => (slices_Index_int_int.mono_l k) x0 x1 x7 x8
noncomputable def slices_Index_int_int.F (l0 : List Int) (a1 : Int) : Option (Int) := lim fun k => slices_Index_int_int.f k l0 a1
theorem slices_Index_int_int.F_lim (l0 : List Int) (a1 : Int) : Lim (fun k => slices_Index_int_int.f k l0 a1) (slices_Index_int_int.F l0 a1) := Lim.of fun k => slices_Index_int_int.mono l0 a1 k
theorem slices_Index_int_int.L0_eq (x0 : List Int) (x1 : Int) (x7 : Int) (x8 : Int) : slices_Index_int_int.L0 x0 x1 x7 x8 = (if x8 < x7 then (if 0 ≤ x8 then (if x8 < (x0.length : Int) then (if x1 = (rd x0 x8) then (some x8) else (slices_Index_int_int.L0 x0 x1 x7 (wrap64 (x8 + 1)))) else (none)) else (none)) else (some (-1))) :=
 Lim.step (f := fun k => slices_Index_int_int.l0 (k + 1) x0 x1 x7 x8) (slices_Index_int_int.L0_lim x0 x1 x7 x8) (fun _ => rfl) (by
  simp only [slices_Index_int_int.l0]
  repeat' (first | (with_reducible first | exact Lim.const _ | exact slices_Index_int_int.L0_lim _ _ _ _ | refine Lim.ite ?_ ?_ | refine Lim.bind ?_ (fun _ => ?_))))
theorem slices_Index_int_int.F_eq (l0 : List Int) (a1 : Int) : slices_Index_int_int.F l0 a1 = (slices_Index_int_int.L0 l0 a1 (l0.length : Int) 0) :=
 Lim.unique (slices_Index_int_int.F_lim l0 a1) (by
  unfold slices_Index_int_int.f
  repeat' (first | (with_reducible first | exact Lim.const _ | exact slices_Index_int_int.L0_lim _ _ _ _ | refine Lim.ite ?_ ?_ | refine Lim.bind ?_ (fun _ => ?_))))

end Go.Proofs.Ytofjndbpndpjjaa.Fn
namespace Go.Proofs.Ytofjndbpndpjjaa.Fn
open Go.RowKit Go.Proofs.YtofjndbpndpjjaaW.PrintWords Go.Proofs.YtofjndbpndpjjaaW.PrintLast Go.Proofs.YtofjndbpndpjjaaW.PrintMore
attribute [local go_sem] max2_int min2_int max_two min_two max_three min_three max_four min_four   -- for this text's walks alone
set_option linter.unusedVariables false
set_option linter.unusedSimpArgs false

/-! ### slices_Contains_int_int: function 69 -/
def slices_Contains_int_int.f (k : Nat) (l0 : List Int) (a1 : Int) : Option (Bool) := (slices_Index_int_int.f k l0 a1).bind fun t249 => (some (decide (t249 ≥ 0)))
theorem slices_Contains_int_int.mono : ∀ a0 a1 k, LeO (slices_Contains_int_int.f k a0 a1) (slices_Contains_int_int.f (k + 1) a0 a1) := by
 intro a0 a1 k
 unfold slices_Contains_int_int.f
 repeat' (first | (with_reducible first | exact slices_Index_int_int.mono _ _ _ | exact LeO.refl _ | exact LeO.none _ | refine LeO.ite ?_ ?_ | refine LeO.bind ?_ (fun _ => ?_)) | exact slices_Index_int_int.mono _ _ _ | exact LeO.none _ | refine LeO.ite ?_ ?_ | refine LeO.bind ?_ (fun _ => ?_))
set_option maxHeartbeats 8000000 in
set_option maxRecDepth 100000 in
theorem slices_Contains_int_int.calls (k : Nat) (A0 : Option Addr) (c0 : Nat) (l0 : List Int) (a1 : Int) (r : Bool) (w : World) (hr0 : Kd.C (Kd.int .i64) w A0 l0.length l0) (hc0 : l0.length ≤ c0) (h : slices_Contains_int_int.f k l0 a1 = some r) :
  Calls Try.prog 69 #[.slice A0 l0.length c0, .int .i64 a1] w fun e w' => e = .returned (.bool r) ∧ Drawn0 w w' := by
 have HR0 := Aside0.mk hr0
 have HC0 := Aside0.mk hc0
 clear hr0 hc0
 have H := h
 unfold slices_Contains_int_int.f at H
 clear h
 replace H := Option.bind_eq_some_iff.mp H
 obtain ⟨t249, A30, H⟩ := H
 replace H : (some (decide (t249 ≥ 0))) = some r := H
 have A3 := Aside0.mk A30
 clear A30
 obtain rfl := Option.some.inj H
 go_enter Try.func69, Try.ntmps69
 go_wp2_with (first | ((with_reducible refine gate_callee (f := 98) rfl ?_); refine goesA (some 7) Try.func98 #[.slice A0 l0.length c0, .int .i64 a1] ?_; (with_reducible refine (slices_Index_int_int.calls k _ _ l0 a1 t249 _ ?side1 ?side2 A3.out).mono ?_); (case side1 => repeat (first | exact HR0.out | (with_reducible refine Kd.C_alloc ?_ _) | (with_reducible refine Kd.C_drewN ?_ _) | (with_reducible refine Kd.C_drew ?_))); (case side2 => exact HC0.out); rintro e w' ⟨rfl, ⟨nd, rfl⟩⟩; refine ⟨_, rfl, ?_⟩))
 go_ret
 exact ⟨by first | rfl | (simp; done) | (simp [*]; done), by repeat (first | exact Drawn0.refl _ | apply Drawn0.step)⟩

noncomputable def slices_Contains_int_int.F (l0 : List Int) (a1 : Int) : Option (Bool) := lim fun k => slices_Contains_int_int.f k l0 a1
theorem slices_Contains_int_int.F_lim (l0 : List Int) (a1 : Int) : Lim (fun k => slices_Contains_int_int.f k l0 a1) (slices_Contains_int_int.F l0 a1) := Lim.of fun k => slices_Contains_int_int.mono l0 a1 k
theorem slices_Contains_int_int.F_eq (l0 : List Int) (a1 : Int) : slices_Contains_int_int.F l0 a1 = ((slices_Index_int_int.F l0 a1).bind fun t249 => (some (decide (t249 ≥ 0)))) :=
 Lim.unique (slices_Contains_int_int.F_lim l0 a1) (by
  unfold slices_Contains_int_int.f
  repeat' (first | (with_reducible first | exact Lim.const _ | exact slices_Index_int_int.F_lim _ _ | refine Lim.ite ?_ ?_ | refine Lim.bind ?_ (fun _ => ?_))))

end Go.Proofs.Ytofjndbpndpjjaa.Fn
namespace Go.Proofs.Ytofjndbpndpjjaa.Fn
open Go.RowKit Go.Proofs.YtofjndbpndpjjaaW.PrintWords Go.Proofs.YtofjndbpndpjjaaW.PrintLast Go.Proofs.YtofjndbpndpjjaaW.PrintMore
attribute [local go_sem] max2_int min2_int max_two min_two max_three min_three max_four min_four   -- for this text's walks alone
set_option linter.unusedVariables false
set_option linter.unusedSimpArgs false

/-! ### slices_Clone_int_int: function 70 (given) -/
def slices_Clone_int_int.f (l0 : List Int) : Option (List Int) := if l0.length < 17592186044416 then some l0 else none
theorem slices_Clone_int_int.app_room {y l : List Int} (h1 : l.length < 17592186044416) (h2 : y = []) : (y.length + l.length) * 8 ≤ 140737488355328 := by
 subst h2; simp; omega
set_option maxHeartbeats 8000000 in
set_option maxRecDepth 100000 in
theorem slices_Clone_int_int.calls (A0 : Option Addr) (c0 : Nat) (l0 : List Int) (r : List Int) (w : World) (hr0 : Kd.C (Kd.int .i64) w A0 l0.length l0) (hc0 : l0.length ≤ c0) (h : slices_Clone_int_int.f l0 = some r) :
  Calls Try.prog 70 #[.slice A0 l0.length c0] w fun e w' => ∃ v0_ : Value, e = .returned (v0_) ∧ Kd.R (Kd.int .i64) 3 w' w.heap.size (fun _ => True) v0_ r ∧ Below w.heap.size w w' := by
 have HR0 := Aside0.mk hr0
 have hlen : l0.length < 17592186044416 := by
  unfold slices_Clone_int_int.f at h
  split at h
  ·assumption
  ·cases h
 obtain rfl : l0 = r := by
  unfold slices_Clone_int_int.f at h
  rw [if_pos hlen] at h
  exact Option.some.inj h
 have LM := Aside0.mk hlen
 have HB := Aside0.mk (Below.refl w.heap.size w)
 have hu := Try.underlying24
 have heq := fun (w : World) => Lib.run_eql_slice_nil (P := Try.prog) w 24 3 A0 l0.length c0 0 0 hu
 clear h hlen hc0
 cases A0 with
 | none =>
  have hl : l0 = [] := by
   cases l0 with
   | nil => rfl
   | cons x xs =>
    obtain ⟨ad, e, _⟩ := hr0.2.2 (by simp)
    cases e
  have HL := Aside0.mk hl
  clear hr0 hl
  go_enter Try.func70, Try.ntmps70
  go_wp2
  go_ret
  exact ⟨_, rfl, by rw [HL.out]; exact Kd.R_nil _ _ _ _ _, atB HB⟩
 | some ad =>
  clear hr0
  obtain ⟨y113, hy113⟩ : ∃ y_ : List Int, y_ = (([] : List Int)) := ⟨_, rfl⟩
  have Ny113 := Aside0.mk hy113
  clear hy113
  obtain ⟨y116, hy116⟩ : ∃ y_ : List Int, y_ = (y113 ++ l0) := ⟨_, rfl⟩
  have Ny116 := Aside0.mk hy116
  clear hy116
  go_enter Try.func70, Try.ntmps70
  go_wp2_with (first | ((with_reducible refine gate_dst (N := 5) rfl ?_); refine Kd.R_lit (Kd.int .i64) _ 3 ?hg (N := 5) ?hd (xs := ([] : List Int)) (inner := []) (ok := fun _ => True) (okp := fun _ => True) ?hr ?hp (fun _ hk => hk) trivial (Below.refl _ _) (Nat.le_refl _) (by simp) ?_; (case hd => rfl); (case hg => rfl); (case hr => first | (go_simp; done) | (go_simp; rfl)); (case hp => exact (Reps.none _ _)); intro v114 w3 ho4 hb hg_ hnew_; clear hg_ hnew_; (first | rw [← Ny113.out] at ho4 | (simp only [Int.reduceToNat] at ho4; rw [← Ny113.out] at ho4)); have HO115 := lowR ho4 HB; replace HB := upB HB hb; clear hb ho4) | ((with_reducible refine gate_builtin (b := .append) (xs := #[.tmp 5, .tmp 6]) rfl ?_); at_builtin; refine Kd.R_append_rows (Kd.int .i64) (w0 := w) w.heap.size rfl (.tmp 5) (.tmp 6) 24 3 (.int .i64 0) 8 rfl Try.underlying24 info3 rfl (by decide) (by omega) v114 y113 l0 _ _ _ (fun _ => True) (fun _ => False) rfl rfl ?aO ?aR (fun _ _ h => h) (fun _ h => h.elim) ?aF ?aB ?aS ?aL ?_; (case aR => repeat (first | exact (Kd.C_below HR0.out HB.out) | (with_reducible refine Kd.C_alloc ?_ _) | (with_reducible refine Kd.C_drewN ?_ _) | (with_reducible refine Kd.C_drew ?_))); (case aB => exact (atB HB)); (case aF => exact (fun _ _ => trivial)); (case aO => exact (atR HO115)); (case aS => exact (szB HB)); (case aL => exact slices_Clone_int_int.app_room LM.out Ny113.out); intro v117 w5 ho hb hg hat; rw [← Ny116.out] at ho; have HO118 := Aside0.mk (ho); replace HB := Aside0.mk (hb); clear HO115; clear ho hb hg hat))
  go_ret
  exact ⟨_, rfl, by (with_reducible repeat (first | apply Kd.R_alloc | apply Kd.R_drewN | apply Kd.R_drew)); have h := HO118.out; rw [Ny116.out, Ny113.out, List.nil_append] at h; exact h, atB HB⟩


end Go.Proofs.Ytofjndbpndpjjaa.Fn
namespace Go.Proofs.Ytofjndbpndpjjaa.Fn
open Go.RowKit Go.Proofs.YtofjndbpndpjjaaW.PrintWords Go.Proofs.YtofjndbpndpjjaaW.PrintLast Go.Proofs.YtofjndbpndpjjaaW.PrintMore
attribute [local go_sem] max2_int min2_int max_two min_two max_three min_three max_four min_four   -- for this text's walks alone
set_option linter.unusedVariables false
set_option linter.unusedSimpArgs false

/-! ### slices_Sort_int_int: function 71 (given) -/
open Go.Lib Go.Sort
/-- A list in order. -/
def sortInt (l : List Int) : List Int := l.mergeSort fun x y => decide (x ≤ y)
theorem sortInt_length (l : List Int) : (sortInt l).length = l.length := List.length_mergeSort l
def slices_Sort_int_int.f (l0 : List Int) : Option (List Int) := if l0.length < 4611686018427387904 then some (sortInt l0) else none
theorem slices_Sort_int_int.below {w : World} {B g q : Nat} {os : Array Obj} (d : Array Int) (h : B ≤ g) (hs : B ≤ w.heap.size) : Below B w (grow (putRow (Value.int .i64) (Sort.ahead w q) g 0 d) os) := by
 refine ⟨rfl, rfl, rfl, by simp [grow, putRow, mapBlock, Sort.ahead], fun k hk => ?_⟩
 have h1 : g ≠ k := by omega
 have h2 : k < w.heap.size := by omega
 simp only [grow, putRow, mapBlock, Sort.ahead]
 rw [Array.getElem?_append_left (by simpa using h2), Array.getElem?_modify, if_neg h1]
theorem slices_Sort_int_int.heap {w : World} {g q : Nat} {os : Array Obj} {cur : Array Value} {e : TypeId} {fr : Nat × Nat} (d : Array Int) (hb : w.heap[g]? = some (.cells cur e fr)) : (grow (putRow (Value.int .i64) (Sort.ahead w q) g 0 d) os).heap[g]? = some (.cells (putCells (Value.int .i64) 0 d cur) e fr) := by
 have h2 : g < w.heap.size := by
  rcases Nat.lt_or_ge g w.heap.size with h | h
  ·exact h
  ·rw [Array.getElem?_eq_none h] at hb
   cases hb
 simp only [grow, putRow, mapBlock, Sort.ahead, Array.getElem?_append, Array.size_modify, h2, if_true]
 simp [Array.getElem?_modify, hb, onCells]
theorem slices_Sort_int_int.kept {w : World} {g q : Nat} {os : Array Obj} (d : Array Int) (P : Nat → Prop) (h : P g) : Kept w (grow (putRow (Value.int .i64) (Sort.ahead w q) g 0 d) os) P := by
 refine ⟨by simp [grow, putRow, mapBlock, Sort.ahead], fun k hk hn => ?_⟩
 have h1 : g ≠ k := fun e => hn (e ▸ h)
 simp only [grow, putRow, mapBlock, Sort.ahead]
 rw [Array.getElem?_append_left (by simpa using hk), Array.getElem?_modify, if_neg h1]
theorem slices_Sort_int_int.calls (P0_ : Nat → Prop) (u9000_ : Value) (l0 : List Int) (r : List Int) (w0 w : World) (hB : Below w0.heap.size w0 w) (ho0 : Kd.R (Kd.int .i64) 3 w w0.heap.size P0_ u9000_ l0) (h : slices_Sort_int_int.f l0 = some r) :
  Calls Try.prog 71 #[u9000_] w fun e w' => e = .returned (.tuple #[]) ∧ Kd.R (Kd.int .i64) 3 w' w0.heap.size (fun k_ => (P0_ k_ ∨ w.heap.size ≤ k_)) u9000_ r ∧ Below w0.heap.size w0 w' ∧ Kept w w' (fun k_ => P0_ k_) := by
 unfold slices_Sort_int_int.f at h
 split at h
 case isFalse => cases h
 rename_i hlen0
 obtain rfl := Option.some.inj h
 have ho1 := ho0
 obtain ⟨A, c, rfl⟩ := Kd.R_slice ho0
 obtain ⟨hok, inner, ho, hr⟩ := ho0
 have hin : inner = l0.map (Value.int .i64) := Kd.reps_encs hr
 subst hin
 by_cases hl : l0 = []
 ·subst hl
  refine (Try.slices_Sort_int_none A c w).mono ?_
  rintro e w' ⟨rfl, rfl⟩
  have e0 : sortInt [] = [] := by simp [sortInt]
  rw [e0]
  exact ⟨rfl, Kd.R_mono ho1 (fun k hk => .inl hk), hB, Kept.refl _ _⟩
 rcases ho.2 with ⟨h0, h1⟩ | ⟨g, cap, cur, hv, hg, hb, hn, hcap, hsz, htk⟩
 ·simp at h0
  exact absurd h0.2.1 hl
 ·cases hv
  have ht : cur.toList.take l0.length = l0.map (Value.int .i64) := by simpa [Kd.int, Kd.scalar] using htk
  have hsz' : cur.size = c := by simpa [Kd.int, Kd.scalar] using hsz
  have hlt : g < w.heap.size := by
   rcases Nat.lt_or_ge g w.heap.size with h | h
   ·exact h
   ·rw [Array.getElem?_eq_none h] at hb
    cases hb
  refine (Try.slices_Sort_int g 0 c l0 w (holds_of_blockI hb ht) hlt hlen0).mono ?_
  rintro e w' ⟨rfl, q, os, rfl⟩
  have hPg : P0_ g := hok g rfl
  have hlen := sortInt_length l0
  refine ⟨rfl, ⟨fun k hk => .inl (hok k hk), _, ⟨?_, .inr ⟨g, c, _, by rw [hlen], hg, slices_Sort_int_int.heap _ hb, by omega, hcap, ?_, ?_⟩⟩, Kd.reps_scalar _⟩, hB.trans (slices_Sort_int_int.below _ hg hB.size), slices_Sort_int_int.kept _ _ hPg⟩
  ·show (List.map _ _).length = _ * 1
   rw [List.length_map, Nat.mul_one]
  ·show _ = c * 1
   rw [Nat.mul_one]
   simpa [putCells] using hsz'
  ·show List.take (_ * 1) _ = List.map _ _
   have e1 := take_putCellsI cur (sortInt l0) (by omega)
   rw [Nat.mul_one]
   exact e1


end Go.Proofs.Ytofjndbpndpjjaa.Fn
namespace Go.Proofs.Ytofjndbpndpjjaa.Fn
open Go.RowKit Go.Proofs.YtofjndbpndpjjaaW.PrintWords Go.Proofs.YtofjndbpndpjjaaW.PrintLast Go.Proofs.YtofjndbpndpjjaaW.PrintMore
attribute [local go_sem] max2_int min2_int max_two min_two max_three min_three max_four min_four   -- for this text's walks alone
set_option linter.unusedVariables false
set_option linter.unusedSimpArgs false

/-! ### impl_AddMark: function 27 -/
def impl_AddMark.j0 : Nat → List Int → Int → Bool → Option (List Int × Bool)
 | 0, _, _, _ => none
 | k + 1, x0, x1, x18 => if x18 = true then (some (([] : List Int), false)) else ((slices_Clone_int_int.f x0).bind fun t399 => (if t399.length < 17592186044416 then ((slices_Sort_int_int.f (t399 ++ [x1])).bind fun t405 => ((impl_IsRuler.f k t405).bind fun t406 => (if t406 = true then (some (t405, true)) else (some (([] : List Int), false))))) else (none)))
def impl_AddMark.f (k : Nat) (l0 : List Int) (a1 : Int) : Option (List Int × Bool) := (impl_IsRuler.f k l0).bind fun t397 => (if t397 = true then (if a1 < 0 then (impl_AddMark.j0 k l0 a1 true) else ((slices_Contains_int_int.f k l0 a1).bind fun t398 => (impl_AddMark.j0 k l0 a1 t398))) else (impl_AddMark.j0 k l0 a1 true))
theorem impl_AddMark.mono_l : ∀ k, (∀ y0 y1 y2, LeO (impl_AddMark.j0 k y0 y1 y2) (impl_AddMark.j0 (k + 1) y0 y1 y2))
 | 0 => fun _ _ _ r h => by simp [impl_AddMark.j0] at h
 | k + 1 => by
  have ih0 := impl_AddMark.mono_l k
  ·intro y0 y1 y2
   unfold impl_AddMark.j0
   repeat' (first | (with_reducible first | exact impl_IsRuler.mono _ _ | exact LeO.refl _ | exact LeO.none _ | refine LeO.ite ?_ ?_ | refine LeO.bind ?_ (fun _ => ?_)) | exact impl_IsRuler.mono _ _ | exact LeO.none _ | refine LeO.ite ?_ ?_ | refine LeO.bind ?_ (fun _ => ?_))
theorem impl_AddMark.mono : ∀ a0 a1 k, LeO (impl_AddMark.f k a0 a1) (impl_AddMark.f (k + 1) a0 a1) := by
 intro a0 a1 k
 have ih0 := impl_AddMark.mono_l k
 unfold impl_AddMark.f
 repeat' (first | (with_reducible first | exact ih0 _ _ _ | exact impl_IsRuler.mono _ _ | exact slices_Contains_int_int.mono _ _ _ | exact LeO.refl _ | exact LeO.none _ | refine LeO.ite ?_ ?_ | refine LeO.bind ?_ (fun _ => ?_)) | exact ih0 _ _ _ | exact impl_IsRuler.mono _ _ | exact slices_Contains_int_int.mono _ _ _ | exact LeO.none _ | refine LeO.ite ?_ ?_ | refine LeO.bind ?_ (fun _ => ?_))
set_option maxHeartbeats 8000000 in
set_option maxRecDepth 100000 in
theorem impl_AddMark.calls (k : Nat) (A0 : Option Addr) (c0 : Nat) (l0 : List Int) (a1 : Int) (r1 : List Int) (r2 : Bool) (w : World) (hr0 : Kd.C (Kd.int .i64) w A0 l0.length l0) (hc0 : l0.length ≤ c0) (h : impl_AddMark.f k l0 a1 = some (r1, r2)) :
  Calls Try.prog 27 #[.slice A0 l0.length c0, .int .i64 a1] w fun e w' => ∃ v0_ : Value, e = .returned (.tuple #[v0_, .bool r2]) ∧ Kd.R (Kd.int .i64) 3 w' w.heap.size (fun _ => True) v0_ r1 ∧ Below w.heap.size w w' := by
 have HR0 := Aside0.mk hr0
 have HC0 := Aside0.mk hc0
 clear hr0 hc0
 have HB := Aside0.mk (Below.refl w.heap.size w)
 have H := h
 unfold impl_AddMark.f at H
 clear h
 have HC3 := Aside0.mk H
 clear H
 go_enter Try.func27, Try.ntmps27
 go_upto_region 1 with (fail)
 go_cut [18] (fun v18 wc => ∃ (kq : Nat) (x18_2 : Bool), v18 = .bool x18_2 ∧ Aside0 (impl_AddMark.j0 kq l0 a1 x18_2 = some (r1, r2)) ∧ Aside0 (kq ≤ k) ∧ Aside0 (Below w.heap.size w wc))
 case first =>
  have H := HC3.out
  clear HC3
  replace H := Option.bind_eq_some_iff.mp H
  obtain ⟨t397, A40, H⟩ := H
  replace H : (if t397 = true then (if a1 < 0 then (impl_AddMark.j0 k l0 a1 true) else ((slices_Contains_int_int.f k l0 a1).bind fun t398 => (impl_AddMark.j0 k l0 a1 t398))) else (impl_AddMark.j0 k l0 a1 true)) = some (r1, r2) := H
  have A4 := Aside0.mk A40
  clear A40
  by_cases c5 : t397 = true
  ·subst c5
   have H1 : (if a1 < 0 then (impl_AddMark.j0 k l0 a1 true) else ((slices_Contains_int_int.f k l0 a1).bind fun t398 => (impl_AddMark.j0 k l0 a1 t398))) = some (r1, r2) := by rw [if_pos rfl] at H; exact H
   clear H
   have H := H1
   clear H1
   by_cases c6 : a1 < 0
   ·rw [if_pos c6] at H
    have c6b0 : decide (a1 < 0) = true := decide_eq_true c6
    clear c6
    (first | rw [c6b0] | (simp only [i64_w, i32_w]; rw [c6b0]) | skip)
    have H' := Aside0.mk H
    clear H
    go_wp2_with (first | ((with_reducible refine gate_callee (f := 22) rfl ?_); refine goesA (some 8) Try.func22 #[.slice A0 l0.length c0] ?_; (with_reducible refine (impl_IsRuler.calls k _ _ l0 true _ ?side1 ?side2 A4.out).mono ?_); (case side1 => repeat (first | exact (Kd.C_below HR0.out HB.out) | (with_reducible refine Kd.C_alloc ?_ _) | (with_reducible refine Kd.C_drewN ?_ _) | (with_reducible refine Kd.C_drew ?_))); (case side2 => exact HC0.out); rintro e w' ⟨rfl, ⟨nd, rfl⟩⟩; refine ⟨_, rfl, ?_⟩))
    go_meet
    case rel => exact ⟨_, (true), eqd, H', ⟨leD⟩, ⟨atB HB⟩⟩
   ·rw [if_neg c6] at H
    have c6b0 : decide (a1 < 0) = false := decide_eq_false c6
    clear c6
    (first | rw [c6b0] | (simp only [i64_w, i32_w]; rw [c6b0]) | skip)
    replace H := Option.bind_eq_some_iff.mp H
    obtain ⟨t398, A70, H⟩ := H
    replace H : (impl_AddMark.j0 k l0 a1 t398) = some (r1, r2) := H
    have A7 := Aside0.mk A70
    clear A70
    have H' := Aside0.mk H
    clear H
    go_wp2_with (first | ((with_reducible refine gate_callee (f := 22) rfl ?_); refine goesA (some 8) Try.func22 #[.slice A0 l0.length c0] ?_; (with_reducible refine (impl_IsRuler.calls k _ _ l0 true _ ?side1 ?side2 A4.out).mono ?_); (case side1 => repeat (first | exact (Kd.C_below HR0.out HB.out) | (with_reducible refine Kd.C_alloc ?_ _) | (with_reducible refine Kd.C_drewN ?_ _) | (with_reducible refine Kd.C_drew ?_))); (case side2 => exact HC0.out); rintro e w' ⟨rfl, ⟨nd, rfl⟩⟩; refine ⟨_, rfl, ?_⟩) | (go_at_call 69; (with_reducible refine (slices_Contains_int_int.calls k _ _ l0 a1 t398 _ ?side1 ?side2 A7.out).mono ?_); (case side1 => repeat (first | exact (Kd.C_below HR0.out (atB HB)) | (with_reducible refine Kd.C_alloc ?_ _) | (with_reducible refine Kd.C_drewN ?_ _) | (with_reducible refine Kd.C_drew ?_))); (case side2 => exact HC0.out); rintro e w' ⟨rfl, ⟨nd, rfl⟩⟩))
    go_meet
    case rel => exact ⟨_, (t398), eqd, H', ⟨leD⟩, ⟨atB HB⟩⟩
  ·replace c5 := Bool.eq_false_iff.mpr c5
   subst c5
   have H1 : (impl_AddMark.j0 k l0 a1 true) = some (r1, r2) := by rw [if_neg (show ¬ (false = true) by decide)] at H; exact H
   clear H
   have H := H1
   clear H1
   have H' := Aside0.mk H
   clear H
   go_wp2_with (first | ((with_reducible refine gate_callee (f := 22) rfl ?_); refine goesA (some 8) Try.func22 #[.slice A0 l0.length c0] ?_; (with_reducible refine (impl_IsRuler.calls k _ _ l0 false _ ?side1 ?side2 A4.out).mono ?_); (case side1 => repeat (first | exact (Kd.C_below HR0.out HB.out) | (with_reducible refine Kd.C_alloc ?_ _) | (with_reducible refine Kd.C_drewN ?_ _) | (with_reducible refine Kd.C_drew ?_))); (case side2 => exact HC0.out); rintro e w' ⟨rfl, ⟨nd, rfl⟩⟩; refine ⟨_, rfl, ?_⟩))
   go_meet
   case rel => exact ⟨_, (true), eqd, H', ⟨leD⟩, ⟨atB HB⟩⟩
 case rest =>
  clear HC3
  try clear c2
  try clear p2
  try clear c5
  try clear c6
  try clear c6b0
  obtain ⟨kq, x18_2, rfl, HA, HJ2, HB⟩ := hcut
  cases kq with
  | zero => exact absurd HA.out (by simp [impl_AddMark.j0])
  | succ kj2 =>
   have H := HA.out
   clear HA
   simp only [impl_AddMark.j0] at H
   by_cases c8 : x18_2 = true
   ·subst c8
    have H1 : (some (([] : List Int), false)) = some (r1, r2) := by rw [if_pos rfl] at H; exact H
    clear H
    have H := H1
    clear H1
    simp only [Option.some.injEq, Prod.mk.injEq] at H
    obtain ⟨rfl, rfl⟩ := H
    go_wp2
    go_ret2
    exact ⟨_, eqr, by first | exact Kd.R_nil _ _ _ _ _ | exact Kd.N_nil _ _ _ _ _ | exact Kd.V_nil _ _ _ _ _ | exact Kd.Q_nil _ _ _ _ _ | exact Kd.S_nil _ _ _ _ _, atB HB⟩
   ·replace c8 := Bool.eq_false_iff.mpr c8
    subst c8
    have H1 : ((slices_Clone_int_int.f l0).bind fun t399 => (if t399.length < 17592186044416 then ((slices_Sort_int_int.f (t399 ++ [a1])).bind fun t405 => ((impl_IsRuler.f kj2 t405).bind fun t406 => (if t406 = true then (some (t405, true)) else (some (([] : List Int), false))))) else (none))) = some (r1, r2) := by rw [if_neg (show ¬ (false = true) by decide)] at H; exact H
    clear H
    have H := H1
    clear H1
    replace H := Option.bind_eq_some_iff.mp H
    obtain ⟨t399, A90, H⟩ := H
    replace H : (if t399.length < 17592186044416 then ((slices_Sort_int_int.f (t399 ++ [a1])).bind fun t405 => ((impl_IsRuler.f kj2 t405).bind fun t406 => (if t406 = true then (some (t405, true)) else (some (([] : List Int), false))))) else (none)) = some (r1, r2) := H
    have A9 := Aside0.mk A90
    clear A90
    by_cases c10 : t399.length < 17592186044416
    ·rw [if_pos c10] at H
     have LMc10 := Aside0.mk c10
     clear c10
     obtain ⟨y402, hy402⟩ : ∃ y_ : List Int, y_ = (t399 ++ [a1]) := ⟨_, rfl⟩
     replace H : ((slices_Sort_int_int.f y402).bind fun t405 => ((impl_IsRuler.f kj2 t405).bind fun t406 => (if t406 = true then (some (t405, true)) else (some (([] : List Int), false))))) = some (r1, r2) := by first | (rw [hy402]; with_reducible exact H) | (have H2_ := (Option.bind_some _ _).symm.trans H; rw [hy402]; with_reducible exact H2_) | (have H2_ := (Option.bind_some _ _).symm.trans H; with_reducible exact H2_) | with_reducible exact H | (rw [hy402]; exact H) | exact H
     have Ny402 := Aside0.mk hy402
     clear hy402
     replace H := Option.bind_eq_some_iff.mp H
     obtain ⟨t405, A110, H⟩ := H
     replace H : ((impl_IsRuler.f kj2 t405).bind fun t406 => (if t406 = true then (some (t405, true)) else (some (([] : List Int), false)))) = some (r1, r2) := H
     have A11 := Aside0.mk A110
     clear A110
     replace H := Option.bind_eq_some_iff.mp H
     obtain ⟨t406, A120, H⟩ := H
     replace H : (if t406 = true then (some (t405, true)) else (some (([] : List Int), false))) = some (r1, r2) := H
     have A12 := Aside0.mk A120
     clear A120
     by_cases c13 : t406 = true
     ·subst c13
      have H1 : (some (t405, true)) = some (r1, r2) := by rw [if_pos rfl] at H; exact H
      clear H
      have H := H1
      clear H1
      simp only [Option.some.injEq, Prod.mk.injEq] at H
      obtain ⟨rfl, rfl⟩ := H
      go_wp2_with (first | ((with_reducible refine gate_callee (f := 70) rfl ?_); refine goesA (some 20) Try.func70 #[.slice A0 l0.length c0] ?_; (with_reducible refine (slices_Clone_int_int.calls _ _ l0 t399 _ ?side1 ?side2 A9.out).mono ?_); (case side1 => repeat (first | exact (Kd.C_below HR0.out HB.out) | (with_reducible refine Kd.C_alloc ?_ _) | (with_reducible refine Kd.C_drewN ?_ _) | (with_reducible refine Kd.C_drew ?_))); (case side2 => exact HC0.out); rintro e w14 ⟨v400, rfl, ho0, hb⟩; refine ⟨_, rfl, ?_⟩; have HO401 := lowR ho0 HB; replace HB := upB HB hb; (try clear hb); (try clear hb2); (try clear hk); (try clear hi); (try clear ho0)) | ((with_reducible refine gate_builtin (b := .append) (xs := #[.tmp 20, .tmp 22]) rfl ?_); at_builtin; refine Kd.R_append (Kd.int .i64) (w0 := w) w.heap.size rfl (.tmp 20) (.tmp 22) 24 3 (.int .i64 0) 8 rfl Try.underlying24 info3 rfl (by decide) (by omega) v400 t399 a1 [.int .i64 a1] (fun _ => True) (fun _ => False) rfl rfl ?aP (fun _ hk => hk.elim) ?aF ?aO ?aB ?aS ?aL ?_; (case aP => exact rfl); (case aB => exact (atB HB)); (case aF => exact (fun _ _ => trivial)); (case aO => exact (atR HO401)); (case aS => exact (szB HB)); (case aL => have := LMc10.out; omega); intro v403 w15 ho hb hg hat; rw [← Ny402.out] at ho; have HO404 := Aside0.mk (ho); replace HB := Aside0.mk (hb); clear HO401; clear ho hb hg hat; obtain ⟨Ao16, co16, eo16⟩ := Kd.R_slice HO404.out; subst eo16) | ((with_reducible refine gate_callee (f := 71) rfl ?_); refine goesA (some 25) Try.func71 #[.slice Ao16 y402.length co16] ?_; (with_reducible refine (slices_Sort_int_int.calls (fun k_ => some k_ = (.slice Ao16 y402.length co16 : Value).ownBlock) (.slice Ao16 y402.length co16) y402 t405 w _ ?side1 ?side2 A11.out).mono ?_); (case side1 => exact atB HB); (case side2 => exact Kd.R_tight rfl HO404.out); rintro e w17 ⟨rfl, hy0, hb, hkp⟩; refine ⟨_, rfl, ?_⟩; replace HO404 := Aside0.mk (Kd.R_reok rfl hy0 (fun k_ e_ => HO404.out.1 k_ e_)); replace HB := Aside0.mk (hb); (try clear hb); (try clear hkp); (try clear hy0)) | ((with_reducible refine gate_callee (f := 22) rfl ?_); refine goesL_ (some 27) rfl rfl Try.func22 (by kernel_rfl) rfl #[.slice Ao16 t405.length co16] rfl (by (try simp only [List.map_toArray, List.map_cons, List.map_nil]); first | done | (rw [show t405.length = y402.length from (Kd.R_reads' HO404.out).1.symm] <;> rfl) | rfl | (simp only [List.length_drop, List.length_take]; rfl)) ?_; (with_reducible refine (impl_IsRuler.calls kj2 _ _ t405 true _ ?side1 ?side2 A12.out).mono ?_); (case side1 => exact atRC HO404); (case side2 => rw [show t405.length = y402.length from (Kd.R_reads' HO404.out).1.symm]; exact (Kd.R_reads' HO404.out).2.1); rintro e w' ⟨rfl, ⟨nd, rfl⟩⟩; refine ⟨_, rfl, ?_⟩))
      go_ret2
      exact ⟨_, eqr, atR HO404, atB HB⟩
     ·replace c13 := Bool.eq_false_iff.mpr c13
      subst c13
      have H1 : (some (([] : List Int), false)) = some (r1, r2) := by rw [if_neg (show ¬ (false = true) by decide)] at H; exact H
      clear H
      have H := H1
      clear H1
      simp only [Option.some.injEq, Prod.mk.injEq] at H
      obtain ⟨rfl, rfl⟩ := H
      go_wp2_with (first | ((with_reducible refine gate_callee (f := 70) rfl ?_); refine goesA (some 20) Try.func70 #[.slice A0 l0.length c0] ?_; (with_reducible refine (slices_Clone_int_int.calls _ _ l0 t399 _ ?side1 ?side2 A9.out).mono ?_); (case side1 => repeat (first | exact (Kd.C_below HR0.out HB.out) | (with_reducible refine Kd.C_alloc ?_ _) | (with_reducible refine Kd.C_drewN ?_ _) | (with_reducible refine Kd.C_drew ?_))); (case side2 => exact HC0.out); rintro e w18 ⟨v400, rfl, ho0, hb⟩; refine ⟨_, rfl, ?_⟩; have HO401 := lowR ho0 HB; replace HB := upB HB hb; (try clear hb); (try clear hb2); (try clear hk); (try clear hi); (try clear ho0)) | ((with_reducible refine gate_builtin (b := .append) (xs := #[.tmp 20, .tmp 22]) rfl ?_); at_builtin; refine Kd.R_append (Kd.int .i64) (w0 := w) w.heap.size rfl (.tmp 20) (.tmp 22) 24 3 (.int .i64 0) 8 rfl Try.underlying24 info3 rfl (by decide) (by omega) v400 t399 a1 [.int .i64 a1] (fun _ => True) (fun _ => False) rfl rfl ?aP (fun _ hk => hk.elim) ?aF ?aO ?aB ?aS ?aL ?_; (case aP => exact rfl); (case aB => exact (atB HB)); (case aF => exact (fun _ _ => trivial)); (case aO => exact (atR HO401)); (case aS => exact (szB HB)); (case aL => have := LMc10.out; omega); intro v403 w19 ho hb hg hat; rw [← Ny402.out] at ho; have HO404 := Aside0.mk (ho); replace HB := Aside0.mk (hb); clear HO401; clear ho hb hg hat; obtain ⟨Ao20, co20, eo20⟩ := Kd.R_slice HO404.out; subst eo20) | ((with_reducible refine gate_callee (f := 71) rfl ?_); refine goesA (some 25) Try.func71 #[.slice Ao20 y402.length co20] ?_; (with_reducible refine (slices_Sort_int_int.calls (fun k_ => some k_ = (.slice Ao20 y402.length co20 : Value).ownBlock) (.slice Ao20 y402.length co20) y402 t405 w _ ?side1 ?side2 A11.out).mono ?_); (case side1 => exact atB HB); (case side2 => exact Kd.R_tight rfl HO404.out); rintro e w21 ⟨rfl, hy0, hb, hkp⟩; refine ⟨_, rfl, ?_⟩; replace HO404 := Aside0.mk (Kd.R_reok rfl hy0 (fun k_ e_ => HO404.out.1 k_ e_)); replace HB := Aside0.mk (hb); (try clear hb); (try clear hkp); (try clear hy0)) | ((with_reducible refine gate_callee (f := 22) rfl ?_); refine goesL_ (some 27) rfl rfl Try.func22 (by kernel_rfl) rfl #[.slice Ao20 t405.length co20] rfl (by (try simp only [List.map_toArray, List.map_cons, List.map_nil]); first | done | (rw [show t405.length = y402.length from (Kd.R_reads' HO404.out).1.symm] <;> rfl) | rfl | (simp only [List.length_drop, List.length_take]; rfl)) ?_; (with_reducible refine (impl_IsRuler.calls kj2 _ _ t405 false _ ?side1 ?side2 A12.out).mono ?_); (case side1 => exact atRC HO404); (case side2 => rw [show t405.length = y402.length from (Kd.R_reads' HO404.out).1.symm]; exact (Kd.R_reads' HO404.out).2.1); rintro e w' ⟨rfl, ⟨nd, rfl⟩⟩; refine ⟨_, rfl, ?_⟩))
      go_ret2
      exact ⟨_, eqr, by first | exact Kd.R_nil _ _ _ _ _ | exact Kd.N_nil _ _ _ _ _ | exact Kd.V_nil _ _ _ _ _ | exact Kd.Q_nil _ _ _ _ _ | exact Kd.S_nil _ _ _ _ _, atB HB⟩
    ·rw [if_neg c10] at H
     exact absurd H (by simp)

noncomputable def impl_AddMark.J0 (x0 : List Int) (x1 : Int) (x18 : Bool) : Option (List Int × Bool) := lim fun k => impl_AddMark.j0 k x0 x1 x18
theorem impl_AddMark.J0_lim (x0 : List Int) (x1 : Int) (x18 : Bool) : Lim (fun k => impl_AddMark.j0 k x0 x1 x18) (impl_AddMark.J0 x0 x1 x18) := Lim.of fun k => (impl_AddMark.mono_l k) x0 x1 x18
noncomputable def impl_AddMark.F (l0 : List Int) (a1 : Int) : Option (List Int × Bool) := lim fun k => impl_AddMark.f k l0 a1
theorem impl_AddMark.F_lim (l0 : List Int) (a1 : Int) : Lim (fun k => impl_AddMark.f k l0 a1) (impl_AddMark.F l0 a1) := Lim.of fun k => impl_AddMark.mono l0 a1 k
theorem impl_AddMark.J0_eq (x0 : List Int) (x1 : Int) (x18 : Bool) : impl_AddMark.J0 x0 x1 x18 = (if x18 = true then (some (([] : List Int), false)) else ((slices_Clone_int_int.f x0).bind fun t399 => (if t399.length < 17592186044416 then ((slices_Sort_int_int.f (t399 ++ [x1])).bind fun t405 => ((impl_IsRuler.F t405).bind fun t406 => (if t406 = true then (some (t405, true)) else (some (([] : List Int), false))))) else (none)))) :=
 Lim.step (f := fun k => impl_AddMark.j0 (k + 1) x0 x1 x18) (impl_AddMark.J0_lim x0 x1 x18) (fun _ => rfl) (by
  simp only [impl_AddMark.j0]
  repeat' (first | (with_reducible first | exact Lim.const _ | exact impl_IsRuler.F_lim _ | refine Lim.ite ?_ ?_ | refine Lim.bind ?_ (fun _ => ?_))))
theorem impl_AddMark.F_eq (l0 : List Int) (a1 : Int) : impl_AddMark.F l0 a1 = ((impl_IsRuler.F l0).bind fun t397 => (if t397 = true then (if a1 < 0 then (impl_AddMark.J0 l0 a1 true) else ((slices_Contains_int_int.F l0 a1).bind fun t398 => (impl_AddMark.J0 l0 a1 t398))) else (impl_AddMark.J0 l0 a1 true))) :=
 Lim.unique (impl_AddMark.F_lim l0 a1) (by
  unfold impl_AddMark.f
  repeat' (first | (with_reducible first | exact Lim.const _ | exact impl_AddMark.J0_lim _ _ _ | exact impl_IsRuler.F_lim _ | exact slices_Contains_int_int.F_lim _ _ | refine Lim.ite ?_ ?_ | refine Lim.bind ?_ (fun _ => ?_))))

end Go.Proofs.Ytofjndbpndpjjaa.Fn
namespace Go.Proofs.Ytofjndbpndpjjaa.Fn
open Go.RowKit Go.Proofs.YtofjndbpndpjjaaW.PrintWords Go.Proofs.YtofjndbpndpjjaaW.PrintLast Go.Proofs.YtofjndbpndpjjaaW.PrintMore
attribute [local go_sem] max2_int min2_int max_two min_two max_three min_three max_four min_four   -- for this text's walks alone
set_option linter.unusedVariables false
set_option linter.unusedSimpArgs false

/-! ### impl_BackRuler: function 17 -/
def impl_BackRuler.l0 : Nat → List Int → List Int → Int → Option (List Int × Bool)
 | 0, _, _, _ => none
 | k + 1, x0, x4, x5 => if x5 ≥ 0 then (if 0 ≤ (wrap64 ((x0.length : Int) - 1)) then (if (wrap64 ((x0.length : Int) - 1)) < (x0.length : Int) then (if 0 ≤ x5 then (if x5 < (x0.length : Int) then (if x4.length < 17592186044416 then (impl_BackRuler.l0 k x0 (x4 ++ [wrap64 ((rd x0 (wrap64 ((x0.length : Int) - 1))) - (rd x0 x5))]) (wrap64 (x5 - 1))) else (none)) else (none)) else (none)) else (none)) else (none)) else (some (x4, true))
def impl_BackRuler.f (k : Nat) (l0 : List Int) : Option (List Int × Bool) := (impl_IsRuler.f k l0).bind fun t266 => (if t266 = true then (impl_BackRuler.l0 k l0 ([] : List Int) (wrap64 ((l0.length : Int) - 1))) else (some (([] : List Int), false)))
theorem impl_BackRuler.mono_l : ∀ k, (∀ y0 y1 y2, LeO (impl_BackRuler.l0 k y0 y1 y2) (impl_BackRuler.l0 (k + 1) y0 y1 y2))
 | 0 => fun _ _ _ r h => by simp [impl_BackRuler.l0] at h
 | k + 1 => by
  have ih0 := impl_BackRuler.mono_l k
  ·intro y0 y1 y2
   unfold impl_BackRuler.l0
   repeat' (first | (with_reducible first | exact ih0 _ _ _ | exact LeO.refl _ | exact LeO.none _ | refine LeO.ite ?_ ?_ | refine LeO.bind ?_ (fun _ => ?_)) | exact ih0 _ _ _ | exact LeO.none _ | refine LeO.ite ?_ ?_ | refine LeO.bind ?_ (fun _ => ?_))
theorem impl_BackRuler.mono : ∀ a0 k, LeO (impl_BackRuler.f k a0) (impl_BackRuler.f (k + 1) a0) := by
 intro a0 k
 have ih0 := impl_BackRuler.mono_l k
 unfold impl_BackRuler.f
 repeat' (first | (with_reducible first | exact ih0 _ _ _ | exact impl_IsRuler.mono _ _ | exact LeO.refl _ | exact LeO.none _ | refine LeO.ite ?_ ?_ | refine LeO.bind ?_ (fun _ => ?_)) | exact ih0 _ _ _ | exact impl_IsRuler.mono _ _ | exact LeO.none _ | refine LeO.ite ?_ ?_ | refine LeO.bind ?_ (fun _ => ?_))
def impl_BackRuler.T7 : Bool × List (List Nat × List Nat) := (true, [([], []), ([], []), ([], []), ([2], [2]), ([3], [3]), ([1, 4], [1, 4]), ([5], [5]), ([], []), ([], []), ([7, 8], [7, 8]), ([9], [9]), ([6, 10], [6, 10]), ([11], [11]), ([0, 12], [0, 12]), ([13, 13, 0, 1, 2, 3, 4, 5, 6, 7, 8, 9, 10, 11, 12, 13], [0, 13])])
def impl_BackRuler.B7 : List Nat := [0, 0, 0, 4, 12, 30, 62, 0, 0, 384, 896, 2046, 4094, 8191, 16383]
theorem impl_BackRuler.tab7 : rtab .any (opsOf Try.f17 7) = impl_BackRuler.T7 := by kernel_rfl
theorem impl_BackRuler.bits7 : waitsOk impl_BackRuler.T7.2 impl_BackRuler.B7 = true := by kernel_rfl
set_option maxHeartbeats 8000000 in
set_option maxRecDepth 100000 in
theorem impl_BackRuler.calls (k : Nat) (A0 : Option Addr) (c0 : Nat) (l0 : List Int) (r1 : List Int) (r2 : Bool) (w : World) (hr0 : Kd.C (Kd.int .i64) w A0 l0.length l0) (hc0 : l0.length ≤ c0) (h : impl_BackRuler.f k l0 = some (r1, r2)) :
  Calls Try.prog 17 #[.slice A0 l0.length c0] w fun e w' => ∃ v0_ : Value, e = .returned (.tuple #[v0_, .bool r2]) ∧ Kd.R (Kd.int .i64) 3 w' w.heap.size (fun _ => True) v0_ r1 ∧ Below w.heap.size w w' := by
 have HR0 := Aside0.mk hr0
 have HC0 := Aside0.mk hc0
 clear hr0 hc0
 have HB := Aside0.mk (Below.refl w.heap.size w)
 have H := h
 unfold impl_BackRuler.f at H
 clear h
 replace H := Option.bind_eq_some_iff.mp H
 obtain ⟨t266, A20, H⟩ := H
 replace H : (if t266 = true then (impl_BackRuler.l0 k l0 ([] : List Int) (wrap64 ((l0.length : Int) - 1))) else (some (([] : List Int), false))) = some (r1, r2) := H
 have A2 := Aside0.mk A20
 clear A20
 by_cases c3 : t266 = true
 ·subst c3
  have H1 : (impl_BackRuler.l0 k l0 ([] : List Int) (wrap64 ((l0.length : Int) - 1))) = some (r1, r2) := by rw [if_pos rfl] at H; exact H
  clear H
  have H := H1
  clear H1
  have H' := Aside0.mk H
  clear H
  go_enter Try.func17, Try.ntmps17
  go_wp2_with (first | ((with_reducible refine gate_callee (f := 22) rfl ?_); refine goesA (some 7) Try.func22 #[.slice A0 l0.length c0] ?_; (with_reducible refine (impl_IsRuler.calls k _ _ l0 true _ ?side1 ?side2 A2.out).mono ?_); (case side1 => repeat (first | exact HR0.out | (with_reducible refine Kd.C_alloc ?_ _) | (with_reducible refine Kd.C_drewN ?_ _) | (with_reducible refine Kd.C_drew ?_))); (case side2 => exact HC0.out); rintro e w' ⟨rfl, ⟨nd, rfl⟩⟩; refine ⟨_, rfl, ?_⟩))
  go_loopg [4, 5] k (fun kq v4 v5 w' => ∃ (x4_1 : List Int) (x5_1 : Int), v5 = .int .i64 x5_1 ∧ Aside0 (impl_BackRuler.l0 kq l0 x4_1 x5_1 = some (r1, r2)) ∧ Aside0 (kq ≤ k) ∧ Aside0 (Kd.R (Kd.int .i64) 3 w' w.heap.size (fun _ => True) v4 x4_1) ∧ Aside0 (Below w.heap.size w w'))
  case atStart => exact ⟨(([] : List Int)), (wrap64 ((l0.length : Int) - 1)), eqd, H', ⟨Nat.le_refl _⟩, ⟨by first | exact Kd.R_nil _ _ _ _ _ | exact Kd.N_nil _ _ _ _ _ | exact Kd.V_nil _ _ _ _ _ | exact Kd.Q_nil _ _ _ _ _ | exact Kd.S_nil _ _ _ _ _⟩, ⟨atB HB⟩⟩
  case round =>
   clear H'
   try clear c1
   try clear c2
   try clear p2
   try clear c3
   obtain ⟨x4_1, x5_1, rfl, HA, HK1, HO_4, HB⟩ := hrel
   cases gk with
   | zero => exact absurd HA.out (by simp [impl_BackRuler.l0])
   | succ k1 =>
    have H := HA.out
    clear HA
    simp only [impl_BackRuler.l0] at H
    by_cases c4 : x5_1 ≥ 0
    ·rw [if_pos c4] at H
     have c4b0 : decide (0 ≤ x5_1) = true := decide_eq_true c4
     clear c4
     obtain ⟨ji5, hji5⟩ : ∃ j_ : Int, (wrap64 ((l0.length : Int) - 1)) = j_ := ⟨_, rfl⟩
     replace H : (if 0 ≤ (ji5) then (if (ji5) < (l0.length : Int) then (if 0 ≤ x5_1 then (if x5_1 < (l0.length : Int) then (if x4_1.length < 17592186044416 then (impl_BackRuler.l0 k1 l0 (x4_1 ++ [wrap64 ((rd l0 (ji5)) - (rd l0 x5_1))]) (wrap64 (x5_1 - 1))) else (none)) else (none)) else (none)) else (none)) else (none)) = some (r1, r2) := by first | (rw [hji5] at H; exact H) | (simp only [hji5] at H ⊢; exact H)
     have hji5w : (IntKind.i64.wrap ((l0.length : Int) - 1)) = ji5 := (i64_w _).trans hji5
     by_cases c6 : 0 ≤ (ji5)
     ·rw [if_pos c6] at H
      have c6b0 : decide (0 ≤ (ji5)) = true := decide_eq_true c6
      clear c6
      by_cases c7 : (ji5) < (l0.length : Int)
      ·rw [if_pos c7] at H
       have c7b0 : decide ((ji5) < (l0.length : Int)) = true := decide_eq_true c7
       clear c7
       by_cases c8 : 0 ≤ x5_1
       ·rw [if_pos c8] at H
        have c8b0 : decide (0 ≤ x5_1) = true := decide_eq_true c8
        clear c8
        by_cases c9 : x5_1 < (l0.length : Int)
        ·rw [if_pos c9] at H
         have c9b0 : decide (x5_1 < (l0.length : Int)) = true := decide_eq_true c9
         clear c9
         by_cases c10 : x4_1.length < 17592186044416
         ·rw [if_pos c10] at H
          have LMc10 := Aside0.mk c10
          clear c10
          obtain ⟨y269, hy269⟩ : ∃ y_ : List Int, y_ = (x4_1 ++ [wrap64 ((rd l0 (ji5)) - (rd l0 x5_1))]) := ⟨_, rfl⟩
          replace H : (impl_BackRuler.l0 k1 l0 y269 (wrap64 (x5_1 - 1))) = some (r1, r2) := by first | (rw [hy269]; with_reducible exact H) | (have H2_ := (Option.bind_some _ _).symm.trans H; rw [hy269]; with_reducible exact H2_) | (have H2_ := (Option.bind_some _ _).symm.trans H; with_reducible exact H2_) | with_reducible exact H | (rw [hy269]; exact H) | exact H
          have Ny269 := Aside0.mk hy269
          clear hy269
          have H' := Aside0.mk H
          clear H
          try go_wp2
          have n0_ := Aside0.mk (Kd.R_drew HO_4.out)
          have n1_ := Aside0.mk (below_drew1 HB.out)
          clear HO_4
          clear HB
          have HO_4 := n0_
          have HB := n1_
          clear n0_ n1_
          have p267 : 0 ≤ ((ji5) : Int) := ofd
          have q267 : (ji5) < (l0.length : Int) := ofd
          obtain ⟨ad267, e267, hx267_0⟩ := Kd.at_int HR0.out (ji5) p267 q267
          have hw267_0 := hx267_0
          cases e267
          (try replace hx267_0 := (HB.out.cell (World.block_lt_of_cell? w _ hx267_0)).trans hx267_0)
          replace p267 := eq_true p267
          replace q267 := eq_true q267
          have p268 : 0 ≤ (x5_1 : Int) := ofd
          have q268 : x5_1 < (l0.length : Int) := ofd
          obtain ⟨ad268, e268, hx268_0⟩ := Kd.at_int HR0.out x5_1 p268 q268
          have hw268_0 := hx268_0
          obtain rfl : ad267 = ad268 := (by injection e268)
          (try replace hx268_0 := (HB.out.cell (World.block_lt_of_cell? w _ hx268_0)).trans hx268_0)
          replace p268 := eq_true p268
          replace q268 := eq_true q268
          refine start_ (n := 15) (S := fun w' => w'.cell? (ad267.add ((ji5)).toNat) = some (.int .i64 (rd l0 (ji5))) ∧ w'.cell? (ad267.add (x5_1).toNat) = some (.int .i64 (rd l0 x5_1))) (ds := []) #[false, false, false, false, false, false, false, false, false, false, false, false, false, false, false] (by kernel_rfl) rfl rfl ⟨((HB.out.cell (World.block_lt_of_cell? w _ hw267_0)).trans hw267_0), ((HB.out.cell (World.block_lt_of_cell? w _ hw268_0)).trans hw268_0)⟩ (fun hHeld => ?_); refine with_tabW impl_BackRuler.tab7 impl_BackRuler.bits7 (fun HT_ HW_ => ?_)
          generalize wr.drew = w11 at HO_4 HB hx267_0 hx268_0 hHeld ⊢
          refine pure_ (i := 0) (N := some 16) (v := ?_) (a' := ?_) #[true, false, false, false, false, false, false, false, false, false, false, false, false, false, false] rfl rfl (any_of HT_.out (by kernel_rfl)) (fun _ _ _ h => h) (Or.inl ⟨by rfl, ?_⟩) ?_ ?_
          rotate_left
          ·intro w'
           go_simp
           with_reducible rfl
          rotate_left
          ·simp only [Act.put, List.setIfInBounds_toArray, List.set_cons_zero, List.set_cons_succ, i64_w, i32_w]
           rfl
          refine pure_ (i := 1) (N := some 17) (v := ?_) (a' := ?_) #[true, true, false, false, false, false, false, false, false, false, false, false, false, false, false] rfl rfl (any_of HT_.out (by kernel_rfl)) (fun _ _ _ h => h) (Or.inl ⟨by rfl, ?_⟩) ?_ ?_
          rotate_left
          ·intro w'
           go_simp
           with_reducible rfl
          rotate_left
          ·simp only [Act.put, List.setIfInBounds_toArray, List.set_cons_zero, List.set_cons_succ, i64_w, i32_w]
           rfl
          refine pure_ (i := 2) (N := some 18) (v := ?_) (a' := ?_) #[true, true, true, false, false, false, false, false, false, false, false, false, false, false, false] rfl rfl (any_of HT_.out (by kernel_rfl)) (fun _ _ _ h => h) (Or.inl ⟨by rfl, ?_⟩) ?_ ?_
          rotate_left
          ·intro w'
           go_simp
           with_reducible rfl
          rotate_left
          ·simp only [Act.put, List.setIfInBounds_toArray, List.set_cons_zero, List.set_cons_succ, i64_w, i32_w]
           rfl
          refine pure_ (i := 3) (N := some 19) (v := ?_) (a' := ?_) #[true, true, true, true, false, false, false, false, false, false, false, false, false, false, false] rfl rfl (any_of HT_.out (by kernel_rfl)) (fun _ _ _ h => h) (Or.inl ⟨by rfl, ?_⟩) ?_ ?_
          rotate_left
          ·intro w'
           go_simp
           with_reducible rfl
          rotate_left
          ·simp only [Act.put, List.setIfInBounds_toArray, List.set_cons_zero, List.set_cons_succ, i64_w, i32_w]
           rfl
          refine pure_ (i := 4) (N := some 20) (v := ?_) (a' := ?_) #[true, true, true, true, true, false, false, false, false, false, false, false, false, false, false] rfl rfl (any_of HT_.out (by kernel_rfl)) (fun _ _ _ h => h) (Or.inl ⟨by rfl, ?_⟩) ?_ ?_
          rotate_left
          ·intro w'
           go_simp
           with_reducible rfl
          rotate_left
          ·simp only [Act.put, List.setIfInBounds_toArray, List.set_cons_zero, List.set_cons_succ, i64_w, i32_w]
           rfl
          refine pure_ (i := 5) (N := some 21) (v := ?_) (a' := ?_) #[true, true, true, true, true, true, false, false, false, false, false, false, false, false, false] rfl rfl (any_of HT_.out (by kernel_rfl)) (fun _ _ _ h => h) (Or.inl ⟨by rfl, ?_⟩) ?_ ?_
          rotate_left
          ·intro w'
           go_simp
           with_reducible rfl
          rotate_left
          ·simp only [Act.put, List.setIfInBounds_toArray, List.set_cons_zero, List.set_cons_succ, i64_w, i32_w]
           rfl
          refine pure_ (i := 7) (N := some 23) (v := ?_) (a' := ?_) #[true, true, true, true, true, true, false, true, false, false, false, false, false, false, false] rfl rfl (any_of HT_.out (by kernel_rfl)) (fun _ _ _ h => h) (Or.inl ⟨by rfl, ?_⟩) ?_ ?_
          rotate_left
          ·intro w'
           go_simp
           with_reducible rfl
          rotate_left
          ·simp only [Act.put, List.setIfInBounds_toArray, List.set_cons_zero, List.set_cons_succ, i64_w, i32_w]
           rfl
          refine pure_ (i := 8) (N := some 24) (v := ?_) (a' := ?_) #[true, true, true, true, true, true, false, true, true, false, false, false, false, false, false] rfl rfl (any_of HT_.out (by kernel_rfl)) (fun _ _ _ h => h) (Or.inl ⟨by rfl, ?_⟩) ?_ ?_
          rotate_left
          ·intro w'
           go_simp
           with_reducible rfl
          rotate_left
          ·simp only [Act.put, List.setIfInBounds_toArray, List.set_cons_zero, List.set_cons_succ, i64_w, i32_w]
           rfl
          refine pure_ (i := 9) (N := some 25) (v := ?_) (a' := ?_) #[true, true, true, true, true, true, false, true, true, true, false, false, false, false, false] rfl rfl (any_of HT_.out (by kernel_rfl)) (fun _ _ _ h => h) (Or.inl ⟨by rfl, ?_⟩) ?_ ?_
          rotate_left
          ·intro w'
           go_simp
           with_reducible rfl
          rotate_left
          ·simp only [Act.put, List.setIfInBounds_toArray, List.set_cons_zero, List.set_cons_succ, i64_w, i32_w]
           rfl
          refine take_ (i := 6) (N := some 22) (v := ?_) (a' := ?_) #[true, true, true, true, true, true, true, true, true, true, false, false, false, false, false] rfl rfl (take_ofW HT_.out HW_.out (by kernel_rfl)) (fun _ _ _ h => h) (Or.inl ⟨by rfl, ?_⟩) hHeld ?_ ?_
          rotate_left
          ·rintro w' ⟨s0, s1⟩
           go_simp
           with_reducible rfl
          rotate_left
          ·simp only [Act.put, List.setIfInBounds_toArray, List.set_cons_zero, List.set_cons_succ, i64_w, i32_w]
           rfl
          refine take_ (i := 10) (N := some 26) (v := ?_) (a' := ?_) #[true, true, true, true, true, true, true, true, true, true, true, false, false, false, false] rfl rfl (take_ofW HT_.out HW_.out (by kernel_rfl)) (fun _ _ _ h => h) (Or.inl ⟨by rfl, ?_⟩) hHeld ?_ ?_
          rotate_left
          ·rintro w' ⟨s0, s1⟩
           go_simp
           with_reducible rfl
          rotate_left
          ·simp only [Act.put, List.setIfInBounds_toArray, List.set_cons_zero, List.set_cons_succ, i64_w, i32_w]
           rfl
          refine pure_ (i := 11) (N := some 27) (v := ?_) (a' := ?_) #[true, true, true, true, true, true, true, true, true, true, true, true, false, false, false] rfl rfl (any_of HT_.out (by kernel_rfl)) (fun _ _ _ h => h) (Or.inl ⟨by rfl, ?_⟩) ?_ ?_
          rotate_left
          ·intro w'
           go_simp
           with_reducible rfl
          rotate_left
          ·simp only [Act.put, List.setIfInBounds_toArray, List.set_cons_zero, List.set_cons_succ, i64_w, i32_w]
           rfl
          refine one_ (i := 12) (N := some 28) #[true, true, true, true, true, true, true, true, true, true, true, true, true, false, false] rfl rfl (one_of HT_.out (by kernel_rfl)) (by decide) (fun K hK => ?_)
          refine value_ (w1 := ?_) (v := ?_) (by rfl) rfl ?_ ?_
          rotate_left 2
          ·go_simp
           constructor
           ·rfl
           ·rfl
          refine hK.out _ _ ⟨(World.cell?_alloc_lt _ _ _ (World.block_lt_of_cell? _ _ (((HB.out.cell (World.block_lt_of_cell? w _ hw267_0)).trans hw267_0)))).trans (((HB.out.cell (World.block_lt_of_cell? w _ hw267_0)).trans hw267_0)), (World.cell?_alloc_lt _ _ _ (World.block_lt_of_cell? _ _ (((HB.out.cell (World.block_lt_of_cell? w _ hw268_0)).trans hw268_0)))).trans (((HB.out.cell (World.block_lt_of_cell? w _ hw268_0)).trans hw268_0))⟩ (fun hHeld => ?_)
          clear hK K
          refine norm_ (a' := ?_) ?_ ?_
          rotate_left
          ·show Act.put _ (some 28) _ = _
           simp only [Act.put, List.setIfInBounds_toArray, List.set_cons_zero, List.set_cons_succ, i64_w, i32_w]
           rfl
          refine one_ (i := 13) (N := some 29) #[true, true, true, true, true, true, true, true, true, true, true, true, true, true, false] rfl rfl (one_of HT_.out (by kernel_rfl)) (by decide) (fun K hK => ?_)
          refine Kd.R_append_step (Kd.int .i64) (w0 := w) w.heap.size (by rfl) (.tmp 16) (.tmp 28) 24 3 (.int .i64 0) 8 rfl Try.underlying24 info3 rfl (by decide) (by omega) u4 x4_1 (wrap64 ((rd l0 (ji5)) - (rd l0 x5_1))) [.int .i64 (wrap64 ((rd l0 (ji5)) - (rd l0 x5_1)))] (fun _ => True) (fun _ => False) rfl rfl ?aP (fun _ hk => hk.elim) ?aF ?aO ?aB ?aS ?aL ?_
          (case aP => exact rfl)
          (case aB => exact (atB HB))
          (case aF => exact (fun _ _ => trivial))
          (case aO => exact (atR HO_4))
          (case aS => exact (szB HB))
          (case aL => have := LMc10.out; omega)
          intro v270 w12 ho hb hg hat
          rw [← Ny269.out] at ho
          have n0_ := Aside0.mk (hb)
          have n1_ := Aside0.mk (ho)
          clear HB
          clear HO_4
          have HB := n0_
          have HO271 := n1_
          clear n0_ n1_
          clear ho hb hg hat
          refine hK.out _ _ ⟨((HB.out.cell (World.block_lt_of_cell? w _ hw267_0)).trans hw267_0), ((HB.out.cell (World.block_lt_of_cell? w _ hw268_0)).trans hw268_0)⟩ (fun hHeld => ?_)
          clear hK K
          refine norm_ (a' := ?_) ?_ ?_
          rotate_left
          ·show Act.put _ (some 29) _ = _
           simp only [Act.put, List.setIfInBounds_toArray, List.set_cons_zero, List.set_cons_succ, i64_w, i32_w]
           rfl
          refine pure_ (i := 14) (N := some 4) (v := ?_) (a' := ?_) #[true, true, true, true, true, true, true, true, true, true, true, true, true, true, true] rfl rfl (any_of HT_.out (by kernel_rfl)) (fun _ _ _ h => h) (Or.inl ⟨by rfl, ?_⟩) ?_ ?_
          rotate_left
          ·intro w'
           go_simp
           with_reducible rfl
          rotate_left
          ·simp only [Act.put, List.setIfInBounds_toArray, List.set_cons_zero, List.set_cons_succ, i64_w, i32_w]
           rfl
          refine done_ (done_of HT_.out (by kernel_rfl)) ?_
          try go_wp2
          first | go_roundg k1 | ((try subst hji5); go_roundg k1)
          case measure => have := HK1.out; omega
          case rel => exact ⟨(y269), (wrap64 (x5_1 - 1)), eqd, H', ⟨by have := HK1.out; omega⟩, ⟨atR HO271⟩, ⟨atB HB⟩⟩
         ·rw [if_neg c10] at H
          exact absurd H (by simp)
        ·rw [if_neg c9] at H
         exact absurd H (by simp)
       ·rw [if_neg c8] at H
        exact absurd H (by simp)
      ·rw [if_neg c7] at H
       exact absurd H (by simp)
     ·rw [if_neg c6] at H
      exact absurd H (by simp)
    ·rw [if_neg c4] at H
     have c4b0 : decide (0 ≤ x5_1) = false := decide_eq_false c4
     clear c4
     simp only [Option.some.injEq, Prod.mk.injEq] at H
     obtain ⟨rfl, rfl⟩ := H
     go_wp2
     go_ret2
     exact ⟨_, eqr, atR HO_4, atB HB⟩
 ·replace c3 := Bool.eq_false_iff.mpr c3
  subst c3
  have H1 : (some (([] : List Int), false)) = some (r1, r2) := by rw [if_neg (show ¬ (false = true) by decide)] at H; exact H
  clear H
  have H := H1
  clear H1
  simp only [Option.some.injEq, Prod.mk.injEq] at H
  obtain ⟨rfl, rfl⟩ := H
  go_enter Try.func17, Try.ntmps17
  go_wp2_with (first | ((with_reducible refine gate_callee (f := 22) rfl ?_); refine goesA (some 7) Try.func22 #[.slice A0 l0.length c0] ?_; (with_reducible refine (impl_IsRuler.calls k _ _ l0 false _ ?side1 ?side2 A2.out).mono ?_); (case side1 => repeat (first | exact HR0.out | (with_reducible refine Kd.C_alloc ?_ _) | (with_reducible refine Kd.C_drewN ?_ _) | (with_reducible refine Kd.C_drew ?_))); (case side2 => exact HC0.out); rintro e w' ⟨rfl, ⟨nd, rfl⟩⟩; refine ⟨_, rfl, ?_⟩))
  go_ret2
  exact ⟨_, eqr, by first | exact Kd.R_nil _ _ _ _ _ | exact Kd.N_nil _ _ _ _ _ | exact Kd.V_nil _ _ _ _ _ | exact Kd.Q_nil _ _ _ _ _ | exact Kd.S_nil _ _ _ _ _, atB HB⟩

noncomputable def impl_BackRuler.L0 (x0 : List Int) (x4 : List Int) (x5 : Int) : Option (List Int × Bool) := lim fun k => impl_BackRuler.l0 k x0 x4 x5
theorem impl_BackRuler.L0_lim (x0 : List Int) (x4 : List Int) (x5 : Int) : Lim (fun k => impl_BackRuler.l0 k x0 x4 x5) (impl_BackRuler.L0 x0 x4 x5) := Lim.of fun k => (impl_BackRuler.mono_l k) x0 x4 x5
noncomputable def impl_BackRuler.F (l0 : List Int) : Option (List Int × Bool) := lim fun k => impl_BackRuler.f k l0
theorem impl_BackRuler.F_lim (l0 : List Int) : Lim (fun k => impl_BackRuler.f k l0) (impl_BackRuler.F l0) := Lim.of fun k => impl_BackRuler.mono l0 k
theorem impl_BackRuler.L0_eq (x0 : List Int) (x4 : List Int) (x5 : Int) : impl_BackRuler.L0 x0 x4 x5 = (if x5 ≥ 0 then (if 0 ≤ (wrap64 ((x0.length : Int) - 1)) then (if (wrap64 ((x0.length : Int) - 1)) < (x0.length : Int) then (if 0 ≤ x5 then (if x5 < (x0.length : Int) then (if x4.length < 17592186044416 then (impl_BackRuler.L0 x0 (x4 ++ [wrap64 ((rd x0 (wrap64 ((x0.length : Int) - 1))) - (rd x0 x5))]) (wrap64 (x5 - 1))) else (none)) else (none)) else (none)) else (none)) else (none)) else (some (x4, true))) :=
 Lim.step (f := fun k => impl_BackRuler.l0 (k + 1) x0 x4 x5) (impl_BackRuler.L0_lim x0 x4 x5) (fun _ => rfl) (by
  simp only [impl_BackRuler.l0]
  repeat' (first | (with_reducible first | exact Lim.const _ | exact impl_BackRuler.L0_lim _ _ _ | refine Lim.ite ?_ ?_ | refine Lim.bind ?_ (fun _ => ?_))))
theorem impl_BackRuler.F_eq (l0 : List Int) : impl_BackRuler.F l0 = ((impl_IsRuler.F l0).bind fun t266 => (if t266 = true then (impl_BackRuler.L0 l0 ([] : List Int) (wrap64 ((l0.length : Int) - 1))) else (some (([] : List Int), false)))) :=
 Lim.unique (impl_BackRuler.F_lim l0) (by
  unfold impl_BackRuler.f
  repeat' (first | (with_reducible first | exact Lim.const _ | exact impl_BackRuler.L0_lim _ _ _ | exact impl_IsRuler.F_lim _ | refine Lim.ite ?_ ?_ | refine Lim.bind ?_ (fun _ => ?_))))

end Go.Proofs.Ytofjndbpndpjjaa.Fn
namespace Go.Proofs.Ytofjndbpndpjjaa.Fn
open Go.RowKit Go.Proofs.YtofjndbpndpjjaaW.PrintWords Go.Proofs.YtofjndbpndpjjaaW.PrintLast Go.Proofs.YtofjndbpndpjjaaW.PrintMore
attribute [local go_sem] max2_int min2_int max_two min_two max_three min_three max_four min_four   -- for this text's walks alone
set_option linter.unusedVariables false
set_option linter.unusedSimpArgs false

/-! ### impl_measured: function 59 -/
mutual
def impl_measured.l0 : Nat → List Int → List Int → List Int → Int → Int → Option (List Int)
 | 0, _, _, _, _, _ => none
 | k + 1, x0, x3, x16, x17, x18 => if x18 < x17 then (if 0 ≤ x18 then (if x18 < (x16.length : Int) then (if x18 ≤ (x0.length : Int) then (impl_measured.l1 k x0 x3 (rd x16 x18) x16 x17 x18 (x0.take (x18 : Int).toNat) ((x0.take (x18 : Int).toNat).length : Int) 0) else (none)) else (none)) else (none)) else (some x3)
def impl_measured.l1 : Nat → List Int → List Int → Int → List Int → Int → Int → List Int → Int → Int → Option (List Int)
 | 0, _, _, _, _, _, _, _, _, _ => none
 | k + 1, x0, x3, x5, x16, x17, x18, x25, x26, x27 => if x27 < x26 then (if 0 ≤ x27 then (if x27 < (x25.length : Int) then (if 0 ≤ (wrap64 (x5 - (rd x25 x27))) then (if (wrap64 (x5 - (rd x25 x27))) < (x3.length : Int) then (impl_measured.l1 k x0 (x3.set ((wrap64 (x5 - (rd x25 x27))) : Int).toNat (wrap64 ((rd x3 (wrap64 (x5 - (rd x25 x27)))) + 1))) x5 x16 x17 x18 x25 x26 (wrap64 (x27 + 1))) else (none)) else (none)) else (none)) else (none)) else (impl_measured.l0 k x0 x3 x16 x17 (wrap64 (x18 + 1)))
end
def impl_measured.f (k : Nat) (l0 : List Int) : Option (List Int) := if 0 ≤ (wrap64 ((l0.length : Int) - 1)) then (if (wrap64 ((l0.length : Int) - 1)) < (l0.length : Int) then (if 0 ≤ (wrap64 ((rd l0 (wrap64 ((l0.length : Int) - 1))) + 1)) then (if (wrap64 ((rd l0 (wrap64 ((l0.length : Int) - 1))) + 1) : Int).toNat ≤ 35184372088832 then (impl_measured.l0 k l0 (List.replicate (wrap64 ((rd l0 (wrap64 ((l0.length : Int) - 1))) + 1) : Int).toNat 0) l0 (l0.length : Int) 0) else (none)) else (none)) else (none)) else (none)
theorem impl_measured.mono_l : ∀ k, (∀ y0 y1 y2 y3 y4, LeO (impl_measured.l0 k y0 y1 y2 y3 y4) (impl_measured.l0 (k + 1) y0 y1 y2 y3 y4)) ∧ (∀ y0 y1 y2 y3 y4 y5 y6 y7 y8, LeO (impl_measured.l1 k y0 y1 y2 y3 y4 y5 y6 y7 y8) (impl_measured.l1 (k + 1) y0 y1 y2 y3 y4 y5 y6 y7 y8))
 | 0 => ⟨fun _ _ _ _ _ r h => by simp [impl_measured.l0] at h, fun _ _ _ _ _ _ _ _ _ r h => by simp [impl_measured.l1] at h⟩
 | k + 1 => by
  obtain ⟨ih0, ih1⟩ := impl_measured.mono_l k
  refine ⟨?_, ?_⟩
  ·intro y0 y1 y2 y3 y4
   unfold impl_measured.l0
   repeat' (first | (with_reducible first | exact ih1 _ _ _ _ _ _ _ _ _ | exact LeO.refl _ | exact LeO.none _ | refine LeO.ite ?_ ?_ | refine LeO.bind ?_ (fun _ => ?_)) | exact ih1 _ _ _ _ _ _ _ _ _ | exact LeO.none _ | refine LeO.ite ?_ ?_ | refine LeO.bind ?_ (fun _ => ?_))
  ·intro y0 y1 y2 y3 y4 y5 y6 y7 y8
   unfold impl_measured.l1
   repeat' (first | (with_reducible first | exact ih0 _ _ _ _ _ | exact ih1 _ _ _ _ _ _ _ _ _ | exact LeO.refl _ | exact LeO.none _ | refine LeO.ite ?_ ?_ | refine LeO.bind ?_ (fun _ => ?_)) | exact ih0 _ _ _ _ _ | exact ih1 _ _ _ _ _ _ _ _ _ | exact LeO.none _ | refine LeO.ite ?_ ?_ | refine LeO.bind ?_ (fun _ => ?_))
theorem impl_measured.mono : ∀ a0 k, LeO (impl_measured.f k a0) (impl_measured.f (k + 1) a0) := by
 intro a0 k
 obtain ⟨ih0, ih1⟩ := impl_measured.mono_l k
 unfold impl_measured.f
 repeat' (first | (with_reducible first | exact ih0 _ _ _ _ _ | exact LeO.refl _ | exact LeO.none _ | refine LeO.ite ?_ ?_ | refine LeO.bind ?_ (fun _ => ?_)) | exact ih0 _ _ _ _ _ | exact LeO.none _ | refine LeO.ite ?_ ?_ | refine LeO.bind ?_ (fun _ => ?_))
set_option maxHeartbeats 8000000 in
set_option maxRecDepth 100000 in
theorem impl_measured.calls (k : Nat) (A0 : Option Addr) (c0 : Nat) (l0 : List Int) (r : List Int) (w : World) (hr0 : Kd.C (Kd.int .i64) w A0 l0.length l0) (hc0 : l0.length ≤ c0) (h : impl_measured.f k l0 = some r) :
  Calls Try.prog 59 #[.slice A0 l0.length c0] w fun e w' => ∃ v0_ : Value, e = .returned (v0_) ∧ Kd.R (Kd.int .i64) 3 w' w.heap.size (fun _ => True) v0_ r ∧ Below w.heap.size w w' := by
 have HR0 := Aside0.mk hr0
 have HC0 := Aside0.mk hc0
 clear hr0 hc0
 have HB := Aside0.mk (Below.refl w.heap.size w)
 have H := h
 unfold impl_measured.f at H
 clear h
 obtain ⟨ji2, hji2⟩ : ∃ j_ : Int, (wrap64 ((l0.length : Int) - 1)) = j_ := ⟨_, rfl⟩
 replace H : (if 0 ≤ (ji2) then (if (ji2) < (l0.length : Int) then (if 0 ≤ (wrap64 ((rd l0 (ji2)) + 1)) then (if (wrap64 ((rd l0 (ji2)) + 1) : Int).toNat ≤ 35184372088832 then (impl_measured.l0 k l0 (List.replicate (wrap64 ((rd l0 (ji2)) + 1) : Int).toNat 0) l0 (l0.length : Int) 0) else (none)) else (none)) else (none)) else (none)) = some r := by first | (rw [hji2] at H; exact H) | (simp only [hji2] at H ⊢; exact H)
 have hji2w : (IntKind.i64.wrap ((l0.length : Int) - 1)) = ji2 := (i64_w _).trans hji2
 by_cases c3 : 0 ≤ (ji2)
 ·rw [if_pos c3] at H
  have c3b0 : decide (0 ≤ (ji2)) = true := decide_eq_true c3
  clear c3
  by_cases c4 : (ji2) < (l0.length : Int)
  ·rw [if_pos c4] at H
   have c4b0 : decide ((ji2) < (l0.length : Int)) = true := decide_eq_true c4
   clear c4
   obtain ⟨ji5, hji5⟩ : ∃ j_ : Int, (wrap64 ((rd l0 (ji2)) + 1)) = j_ := ⟨_, rfl⟩
   replace H : (if 0 ≤ (ji5) then (if (ji5 : Int).toNat ≤ 35184372088832 then (impl_measured.l0 k l0 (List.replicate (ji5 : Int).toNat 0) l0 (l0.length : Int) 0) else (none)) else (none)) = some r := by first | (rw [hji5] at H; exact H) | (simp only [hji5] at H ⊢; exact H)
   have hji5w : (IntKind.i64.wrap ((rd l0 (ji2)) + 1)) = ji5 := (i64_w _).trans hji5
   by_cases c6 : 0 ≤ (ji5)
   ·rw [if_pos c6] at H
    have c6b0 := eq_true c6
    have c6b1 : decide (0 ≤ (ji5)) = true := decide_eq_true c6
    clear c6
    by_cases c7 : (ji5 : Int).toNat ≤ 35184372088832
    ·rw [if_pos c7] at H
     have c7b0 := eq_true c7
     have c7b1 : decide ((ji5 : Int).toNat ≤ 35184372088832) = true := decide_eq_true c7
     clear c7
     obtain ⟨y189, hy189⟩ : ∃ y_ : List Int, y_ = (List.replicate (ji5 : Int).toNat 0) := ⟨_, rfl⟩
     replace H : (impl_measured.l0 k l0 y189 l0 (l0.length : Int) 0) = some r := by first | (rw [hy189]; with_reducible exact H) | (have H2_ := (Option.bind_some _ _).symm.trans H; rw [hy189]; with_reducible exact H2_) | (have H2_ := (Option.bind_some _ _).symm.trans H; with_reducible exact H2_) | with_reducible exact H | (rw [hy189]; exact H) | exact H
     have Ny189 := Aside0.mk hy189
     clear hy189
     have H' := Aside0.mk H
     clear H
     have p188 : 0 ≤ ((ji2) : Int) := ofd
     have q188 : (ji2) < (l0.length : Int) := ofd
     obtain ⟨ad188, e188, hx188_0⟩ := Kd.at_int HR0.out (ji2) p188 q188
     cases e188
     replace p188 := eq_true p188
     replace q188 := eq_true q188
     go_enter Try.func59, Try.ntmps59
     go_wp2_with (first | ((with_reducible refine gate_dst (N := 15) rfl ?_); refine Kd.R_make (Kd.int .i64) _ 3 rfl (N := 15) rfl 24 _ _ rfl ji5 rfl rfl Try.underlying24 (.int .i64 0) 8 info3 rfl (by decide) (by omega) 0 (ok := fun _ => True) (okp := fun _ => True) rfl (fun _ hk => hk) trivial (of_decide_eq_true (by first | (with_reducible assumption) | assumption)) (Nat.le_trans (Nat.mul_le_mul_right _ (of_decide_eq_true (by first | (with_reducible assumption) | assumption) : ji5.toNat ≤ 35184372088832)) (by omega)) (Below.refl _ _) (Nat.le_refl _) ?_; intro v190 w8 ho9 hb hg_ hnew_; clear hg_ hnew_; (first | rw [← Ny189.out] at ho9 | (simp only [Int.reduceToNat] at ho9; rw [← Ny189.out] at ho9)); have HO191 := lowR ho9 HB; replace HB := upB HB hb; clear hb ho9))
     go_loopg [18] k (fun kq v18 w' => ∃ (x3_1 : List Int) (x18_1 : Int), v18 = .int .i64 x18_1 ∧ Aside0 (impl_measured.l0 kq l0 x3_1 l0 (l0.length : Int) x18_1 = some r) ∧ Aside0 (kq ≤ k) ∧ Aside0 (Kd.R (Kd.int .i64) 3 w' w.heap.size (fun _ => True) v190 x3_1) ∧ Aside0 (Below w.heap.size w w'))
     case atStart => exact ⟨(y189), (0), eqd, H', ⟨Nat.le_refl _⟩, ⟨atR HO191⟩, ⟨atB HB⟩⟩
     case round =>
      clear H'
      try clear p1
      try clear q1
      try clear hx1
      try clear p2
      try clear c3
      try clear c3b0
      try clear c4
      try clear c4b0
      try clear c5
      try clear c6
      try clear c6b0
      try clear c6b1
      try clear p6
      try clear c7
      try clear c7b0
      try clear c7b1
      try clear hx188_0
      try clear p188
      try clear q188
      obtain ⟨x3_1, x18_1, rfl, HA, HK1, HO_3, HB⟩ := hrel
      cases gk with
      | zero => exact absurd HA.out (by simp [impl_measured.l0])
      | succ k1 =>
       have H := HA.out
       clear HA
       simp only [impl_measured.l0] at H
       by_cases c10 : x18_1 < (l0.length : Int)
       ·rw [if_pos c10] at H
        have c10b0 : decide (x18_1 < (l0.length : Int)) = true := decide_eq_true c10
        clear c10
        by_cases c11 : 0 ≤ x18_1
        ·rw [if_pos c11] at H
         have c11b0 : decide (0 ≤ x18_1) = true := decide_eq_true c11
         clear c11
         by_cases c12 : x18_1 < (l0.length : Int)
         ·rw [if_pos c12] at H
          have c12b0 : decide (x18_1 < (l0.length : Int)) = true := decide_eq_true c12
          clear c12
          have c13b0 := eq_true (of_decide_eq_true (by first | (with_reducible assumption) | assumption) : 0 ≤ x18_1)
          by_cases c14 : x18_1 ≤ (l0.length : Int)
          ·rw [if_pos c14] at H
           have c14b0 := eq_true c14
           have c14b1 : decide (x18_1 ≤ (l0.length : Int)) = true := decide_eq_true c14
           clear c14
           have H' := Aside0.mk H
           clear H
           have p192 : 0 ≤ (x18_1 : Int) := ofd
           have q192 : x18_1 < (l0.length : Int) := ofd
           obtain ⟨ad192, e192, hx192_0⟩ := Kd.at_int HR0.out x18_1 p192 q192
           obtain rfl : ad188 = ad192 := (by injection e192)
           (try replace hx192_0 := (HB.out.cell (World.block_lt_of_cell? w _ hx192_0)).trans hx192_0)
           replace p192 := eq_true p192
           replace q192 := eq_true q192
           obtain ⟨i015, hi015, _, hsz15, _⟩ := info_parts info3
           obtain ⟨hcut15, hA15, hC15⟩ := print_take_of (P := Try.prog) (Value.int .i64) 0 24 3 .i64 Try.underlying24 hi015 hsz15 (some ad188) c0 l0 x18_1 (of_decide_eq_true (by first | (with_reducible assumption) | assumption)) (of_decide_eq_true (by first | (with_reducible assumption) | assumption)) HC0.out
           have mx15 : max x18_1 0 = x18_1 := (by have z0 : 0 ≤ x18_1 := ofd; omega)
           have ml15 : ((l0.take (x18_1 : Int).toNat).length : Int) = x18_1 := (by have z0 : 0 ≤ x18_1 := ofd; have z1 : x18_1 ≤ (l0.length : Int) := (by first | exact ofd | exact Int.le_of_lt ofd | exact of_eq_true (by assumption)); rw [List.length_take]; omega)
           have HR193 := Aside0.mk (Kd.C_of_reads (h1 := fun _ => rfl) (hA15 _ (Kd.reads_of_C HR0.out)))
           have HC193 := Aside0.mk hC15
           clear hA15 hC15 hi015 hsz15
           go_wp2
           go_loopg [27] k1 (fun kq v27 w' => ∃ (x3_2 : List Int) (x27_2 : Int), v27 = .int .i64 x27_2 ∧ Aside0 (impl_measured.l1 kq l0 x3_2 (rd l0 x18_1) l0 (l0.length : Int) x18_1 (l0.take (x18_1 : Int).toNat) ((l0.take (x18_1 : Int).toNat).length : Int) x27_2 = some r) ∧ Aside0 (kq ≤ k1) ∧ Aside0 (Kd.R (Kd.int .i64) 3 w' w.heap.size (fun _ => True) v190 x3_2) ∧ Aside0 (Below w.heap.size w w'))
           case atStart => exact ⟨(x3_1), (0), eqd, H', ⟨Nat.le_refl _⟩, ⟨atR HO_3⟩, ⟨atB HB⟩⟩
           case round =>
            clear H'
            try clear c1
            try clear p1
            try clear q1
            try clear hx1
            try clear p2
            try clear c3
            try clear c3b0
            try clear c4
            try clear c4b0
            try clear c5
            try clear c6
            try clear c6b0
            try clear c6b1
            try clear p6
            try clear c7
            try clear c7b0
            try clear c7b1
            try clear c10
            try clear c10b0
            try clear c11
            try clear c11b0
            try clear c12
            try clear c12b0
            try clear c13
            try clear c13b0
            try clear c14
            try clear c14b0
            try clear c14b1
            try clear hx188_0
            try clear hx192_0
            try clear p1
            try clear p188
            try clear p192
            try clear p2
            try clear p6
            try clear q1
            try clear q188
            try clear q192
            obtain ⟨x3_2, x27_2, rfl, HA, HK2, HO_3, HB⟩ := hrel
            cases gk with
            | zero => exact absurd HA.out (by simp [impl_measured.l1])
            | succ k2 =>
             have H := HA.out
             clear HA
             simp only [impl_measured.l1] at H
             by_cases c16 : x27_2 < ((l0.take (x18_1 : Int).toNat).length : Int)
             ·rw [if_pos c16] at H
              have c16b0 : decide (x27_2 < ((l0.take (x18_1 : Int).toNat).length : Int)) = true := decide_eq_true c16
              have c16b0m := c16b0; (try rw [ml15] at c16b0m)
              clear c16
              by_cases c17 : 0 ≤ x27_2
              ·rw [if_pos c17] at H
               have c17b0 : decide (0 ≤ x27_2) = true := decide_eq_true c17
               clear c17
               by_cases c18 : x27_2 < ((l0.take (x18_1 : Int).toNat).length : Int)
               ·rw [if_pos c18] at H
                have c18b0 : decide (x27_2 < ((l0.take (x18_1 : Int).toNat).length : Int)) = true := decide_eq_true c18
                have c18b0m := c18b0; (try rw [ml15] at c18b0m)
                clear c18
                obtain ⟨ji19, hji19⟩ : ∃ j_ : Int, (wrap64 ((rd l0 x18_1) - (rd (l0.take (x18_1 : Int).toNat) x27_2))) = j_ := ⟨_, rfl⟩
                replace H : (if 0 ≤ (ji19) then (if (ji19) < (x3_2.length : Int) then (impl_measured.l1 k2 l0 (x3_2.set ((ji19) : Int).toNat (wrap64 ((rd x3_2 (ji19)) + 1))) (rd l0 x18_1) l0 (l0.length : Int) x18_1 (l0.take (x18_1 : Int).toNat) ((l0.take (x18_1 : Int).toNat).length : Int) (wrap64 (x27_2 + 1))) else (none)) else (none)) = some r := by first | (rw [hji19] at H; exact H) | (simp only [hji19] at H ⊢; exact H)
                have hji19w : (IntKind.i64.wrap ((rd l0 x18_1) - (rd (l0.take (x18_1 : Int).toNat) x27_2))) = ji19 := (i64_w _).trans hji19
                by_cases c20 : 0 ≤ (ji19)
                ·rw [if_pos c20] at H
                 have c20b0 : decide (0 ≤ (ji19)) = true := decide_eq_true c20
                 clear c20
                 by_cases c21 : (ji19) < (x3_2.length : Int)
                 ·rw [if_pos c21] at H
                  have c21b0 : decide ((ji19) < (x3_2.length : Int)) = true := decide_eq_true c21
                  clear c21
                  obtain ⟨y196, hy196⟩ : ∃ y_ : List Int, y_ = (x3_2.set ((ji19) : Int).toNat (wrap64 ((rd x3_2 (ji19)) + 1))) := ⟨_, rfl⟩
                  replace H : (impl_measured.l1 k2 l0 y196 (rd l0 x18_1) l0 (l0.length : Int) x18_1 (l0.take (x18_1 : Int).toNat) ((l0.take (x18_1 : Int).toNat).length : Int) (wrap64 (x27_2 + 1))) = some r := by first | (rw [hy196]; with_reducible exact H) | (have H2_ := (Option.bind_some _ _).symm.trans H; rw [hy196]; with_reducible exact H2_) | (have H2_ := (Option.bind_some _ _).symm.trans H; with_reducible exact H2_) | with_reducible exact H | (rw [hy196]; exact H) | exact H
                  have Ny196 := Aside0.mk hy196
                  clear hy196
                  have H' := Aside0.mk H
                  clear H
                  have p194 : 0 ≤ (x27_2 : Int) := ofd
                  have q194 : x27_2 < ((l0.take (x18_1 : Int).toNat).length : Int) := ofd
                  obtain ⟨ad194, e194, hx194_0⟩ := Kd.at_int HR193.out x27_2 p194 q194
                  obtain rfl : ad188 = ad194 := (by injection e194)
                  (try replace hx194_0 := (HB.out.cell (World.block_lt_of_cell? w _ hx194_0)).trans hx194_0)
                  replace p194 := eq_true p194
                  replace q194 := eq_true q194
                  have q194m := q194; (try rw [ml15] at q194m)
                  obtain ⟨Ao23, co23, eo23⟩ := Kd.R_slice HO_3.out
                  subst eo23
                  have p195 : 0 ≤ ((ji19) : Int) := ofd
                  have q195 : (ji19) < (x3_2.length : Int) := ofd
                  obtain ⟨ad195, e195, hx195_0⟩ := Kd.at_int (Kd.R_reads' HO_3.out).2.2 (ji19) p195 q195
                  cases e195
                  replace p195 := eq_true p195
                  replace q195 := eq_true q195
                  have q195m := q195; (try rw [ml15] at q195m)
                  have p22 : 0 ≤ ((ji19) : Int) := ofd
                  have q22 : ((ji19) : Int) < ((x3_2.length : Int) : Int) := ofd
                  obtain ⟨go22, co22, eo22, gb22, gl22, cl22, HG22⟩ := Kd.R_form HO_3.out (by omega)
                  (first | cases eo22 | (injection eo22 with ea_ en_ ec_; (first | subst ea_ | (injection ea_ with ea_; subst ea_)); subst ec_; clear en_))
                  have GB22 := Aside0.mk gb22
                  have GG22 := Aside0.mk HG22
                  clear gb22 gl22 HG22
                  (first | simp only [add_plain] at hx195_0 | skip)
                  obtain ⟨hx22_0, hf22_0⟩ := Kd.R_celln 0 HO_3.out ((ji19) : Int) p22 q22
                  replace p22 := eq_true p22
                  replace q22 := eq_true q22
                  have q22m := q22; (try rw [ml15] at q22m)
                  have HP24 := Kd.R_putg HO_3.out ((ji19) : Int) (wrap64 ((rd x3_2 (ji19)) + 1))
                  go_wp2_with (first | ((with_reducible refine gate_store (t := 3) (p := 38) rfl ?_); refine store_event (t := 3) (p := 38) (v := ?vo_w25) (w1 := (wr.setCell ⟨go22, ((ji19) : Int).toNat, none⟩ (.int .i64 (wrap64 ((rd x3_2 (ji19)) + 1))))) ?hg ?ho ?hn ?hr ?_; (case ho => rfl); (case hg => rfl); (case hn => rfl); (case hr => first | (go_simp; done) | (go_simp; rfl)); intro w25 hw; have hg : wr.grownBy w25 (some go22) := (by rw [hw]; exact HP24.2); have hp_ : Kd.R (Kd.int .i64) 3 w25 w.heap.size (fun _ => True) (.slice (some ⟨go22, 0, none⟩) x3_2.length co23) y196 := (by rw [hw, Ny196.out]; exact HP24.1); clear HP24; replace HO_3 := Aside0.mk (hp_); replace HB := Aside0.mk ((by rw [hw]; exact below_set (HB.out) GB22.out : Below w.heap.size w w25)); clear hg hw hp_))
                  first | go_roundg k2 | ((try subst hji19); (try subst hji5); (try subst hji2); go_roundg k2)
                  case measure => have := HK1.out; have := HK2.out; omega
                  case rel => exact ⟨(y196), (wrap64 (x27_2 + 1)), eqd, H', ⟨by have := HK1.out; have := HK2.out; omega⟩, ⟨atR HO_3⟩, ⟨atB HB⟩⟩
                 ·rw [if_neg c21] at H
                  exact absurd H (by simp)
                ·rw [if_neg c20] at H
                 exact absurd H (by simp)
               ·rw [if_neg c18] at H
                exact absurd H (by simp)
              ·rw [if_neg c17] at H
               exact absurd H (by simp)
             ·rw [if_neg c16] at H
              have c16b0 : decide (x27_2 < ((l0.take (x18_1 : Int).toNat).length : Int)) = false := decide_eq_false c16
              have c16b0m := c16b0; (try rw [ml15] at c16b0m)
              clear c16
              have H' := Aside0.mk H
              clear H
              go_wp2
              first | go_roundg k2 | ((try subst hji5); (try subst hji2); go_roundg k2)
              case measure => have := HK1.out; have := HK2.out; omega
              case rel => exact ⟨(x3_2), (wrap64 (x18_1 + 1)), eqd, H', ⟨by have := HK1.out; have := HK2.out; omega⟩, ⟨atR HO_3⟩, ⟨atB HB⟩⟩
          ·rw [if_neg c14] at H
           exact absurd H (by simp)
         ·rw [if_neg c12] at H
          exact absurd H (by simp)
        ·rw [if_neg c11] at H
         exact absurd H (by simp)
       ·rw [if_neg c10] at H
        have c10b0 : decide (x18_1 < (l0.length : Int)) = false := decide_eq_false c10
        clear c10
        obtain rfl := Option.some.inj H
        go_wp2
        go_ret
        exact ⟨_, by first | rfl | (simp [errW_none, errW_some] <;> rfl) | (simp only [← hji2, ← hji5]; first | rfl | (simp [errW_none, errW_some] <;> rfl)) | (simp [*, errW_none, errW_some] <;> rfl), atR HO_3, atB HB⟩
    ·rw [if_neg c7] at H
     exact absurd H (by simp)
   ·rw [if_neg c6] at H
    exact absurd H (by simp)
  ·rw [if_neg c4] at H
   exact absurd H (by simp)
 ·rw [if_neg c3] at H
  exact absurd H (by simp)

noncomputable def impl_measured.L0 (x0 : List Int) (x3 : List Int) (x16 : List Int) (x17 : Int) (x18 : Int) : Option (List Int) := lim fun k => impl_measured.l0 k x0 x3 x16 x17 x18
theorem impl_measured.L0_lim (x0 : List Int) (x3 : List Int) (x16 : List Int) (x17 : Int) (x18 : Int) : Lim (fun k => impl_measured.l0 k x0 x3 x16 x17 x18) (impl_measured.L0 x0 x3 x16 x17 x18) := Lim.of fun k => (impl_measured.mono_l k).1 x0 x3 x16 x17 x18
noncomputable def impl_measured.L1 (x0 : List Int) (x3 : List Int) (x5 : Int) (x16 : List Int) (x17 : Int) (x18 : Int) (x25 : List Int) (x26 : Int) (x27 : Int) : Option (List Int) := lim fun k => impl_measured.l1 k x0 x3 x5 x16 x17 x18 x25 x26 x27
theorem impl_measured.L1_lim (x0 : List Int) (x3 : List Int) (x5 : Int) (x16 : List Int) (x17 : Int) (x18 : Int) (x25 : List Int) (x26 : Int) (x27 : Int) : Lim (fun k => impl_measured.l1 k x0 x3 x5 x16 x17 x18 x25 x26 x27) (impl_measured.L1 x0 x3 x5 x16 x17 x18 x25 x26 x27) := Lim.of fun k => (impl_measured.mono_l k).2 x0 x3 x5 x16 x17 x18 x25 x26 x27
noncomputable def impl_measured.F (l0 : List Int) : Option (List Int) := lim fun k => impl_measured.f k l0
theorem impl_measured.F_lim (l0 : List Int) : Lim (fun k => impl_measured.f k l0) (impl_measured.F l0) := Lim.of fun k => impl_measured.mono l0 k
theorem impl_measured.L0_eq (x0 : List Int) (x3 : List Int) (x16 : List Int) (x17 : Int) (x18 : Int) : impl_measured.L0 x0 x3 x16 x17 x18 = (if x18 < x17 then (if 0 ≤ x18 then (if x18 < (x16.length : Int) then (if x18 ≤ (x0.length : Int) then (impl_measured.L1 x0 x3 (rd x16 x18) x16 x17 x18 (x0.take (x18 : Int).toNat) ((x0.take (x18 : Int).toNat).length : Int) 0) else (none)) else (none)) else (none)) else (some x3)) :=
 Lim.step (f := fun k => impl_measured.l0 (k + 1) x0 x3 x16 x17 x18) (impl_measured.L0_lim x0 x3 x16 x17 x18) (fun _ => rfl) (by
  simp only [impl_measured.l0]
  repeat' (first | (with_reducible first | exact Lim.const _ | exact impl_measured.L1_lim _ _ _ _ _ _ _ _ _ | refine Lim.ite ?_ ?_ | refine Lim.bind ?_ (fun _ => ?_))))
theorem impl_measured.L1_eq (x0 : List Int) (x3 : List Int) (x5 : Int) (x16 : List Int) (x17 : Int) (x18 : Int) (x25 : List Int) (x26 : Int) (x27 : Int) : impl_measured.L1 x0 x3 x5 x16 x17 x18 x25 x26 x27 = (if x27 < x26 then (if 0 ≤ x27 then (if x27 < (x25.length : Int) then (if 0 ≤ (wrap64 (x5 - (rd x25 x27))) then (if (wrap64 (x5 - (rd x25 x27))) < (x3.length : Int) then (impl_measured.L1 x0 (x3.set ((wrap64 (x5 - (rd x25 x27))) : Int).toNat (wrap64 ((rd x3 (wrap64 (x5 - (rd x25 x27)))) + 1))) x5 x16 x17 x18 x25 x26 (wrap64 (x27 + 1))) else (none)) else (none)) else (none)) else (none)) else (impl_measured.L0 x0 x3 x16 x17 (wrap64 (x18 + 1)))) :=
 Lim.step (f := fun k => impl_measured.l1 (k + 1) x0 x3 x5 x16 x17 x18 x25 x26 x27) (impl_measured.L1_lim x0 x3 x5 x16 x17 x18 x25 x26 x27) (fun _ => rfl) (by
  simp only [impl_measured.l1]
  repeat' (first | (with_reducible first | exact Lim.const _ | exact impl_measured.L0_lim _ _ _ _ _ | exact impl_measured.L1_lim _ _ _ _ _ _ _ _ _ | refine Lim.ite ?_ ?_ | refine Lim.bind ?_ (fun _ => ?_))))
theorem impl_measured.F_eq (l0 : List Int) : impl_measured.F l0 = (if 0 ≤ (wrap64 ((l0.length : Int) - 1)) then (if (wrap64 ((l0.length : Int) - 1)) < (l0.length : Int) then (if 0 ≤ (wrap64 ((rd l0 (wrap64 ((l0.length : Int) - 1))) + 1)) then (if (wrap64 ((rd l0 (wrap64 ((l0.length : Int) - 1))) + 1) : Int).toNat ≤ 35184372088832 then (impl_measured.L0 l0 (List.replicate (wrap64 ((rd l0 (wrap64 ((l0.length : Int) - 1))) + 1) : Int).toNat 0) l0 (l0.length : Int) 0) else (none)) else (none)) else (none)) else (none)) :=
 Lim.unique (impl_measured.F_lim l0) (by
  unfold impl_measured.f
  repeat' (first | (with_reducible first | exact Lim.const _ | exact impl_measured.L0_lim _ _ _ _ _ | refine Lim.ite ?_ ?_ | refine Lim.bind ?_ (fun _ => ?_))))

end Go.Proofs.Ytofjndbpndpjjaa.Fn
namespace Go.Proofs.Ytofjndbpndpjjaa.Fn
open Go.RowKit Go.Proofs.YtofjndbpndpjjaaW.PrintWords Go.Proofs.YtofjndbpndpjjaaW.PrintLast Go.Proofs.YtofjndbpndpjjaaW.PrintMore
attribute [local go_sem] max2_int min2_int max_two min_two max_three min_three max_four min_four   -- for this text's walks alone
set_option linter.unusedVariables false
set_option linter.unusedSimpArgs false

/-! ### impl_DistancesOf: function 7 -/
def impl_DistancesOf.l0 : Nat → List Int → List Int → Int → Int → Option (List Int × Bool)
 | 0, _, _, _, _ => none
 | k + 1, x4, x11, x12, x13 => if x13 < x12 then (if 0 ≤ x13 then (if x13 < (x11.length : Int) then (if (rd x11 x13) > 0 then (if x4.length < 17592186044416 then (impl_DistancesOf.l0 k (x4 ++ [x13]) x11 x12 (wrap64 (x13 + 1))) else (none)) else (impl_DistancesOf.l0 k x4 x11 x12 (wrap64 (x13 + 1)))) else (none)) else (none)) else (some (x4, true))
def impl_DistancesOf.f (k : Nat) (l0 : List Int) : Option (List Int × Bool) := (impl_IsRuler.f k l0).bind fun t197 => (if t197 = true then ((impl_measured.f k l0).bind fun t198 => (impl_DistancesOf.l0 k ([] : List Int) t198 (t198.length : Int) 0)) else (some (([] : List Int), false)))
theorem impl_DistancesOf.mono_l : ∀ k, (∀ y0 y1 y2 y3, LeO (impl_DistancesOf.l0 k y0 y1 y2 y3) (impl_DistancesOf.l0 (k + 1) y0 y1 y2 y3))
 | 0 => fun _ _ _ _ r h => by simp [impl_DistancesOf.l0] at h
 | k + 1 => by
  have ih0 := impl_DistancesOf.mono_l k
  ·intro y0 y1 y2 y3
   unfold impl_DistancesOf.l0
   repeat' (first | (with_reducible first | exact ih0 _ _ _ _ | exact LeO.refl _ | exact LeO.none _ | refine LeO.ite ?_ ?_ | refine LeO.bind ?_ (fun _ => ?_)) | exact ih0 _ _ _ _ | exact LeO.none _ | refine LeO.ite ?_ ?_ | refine LeO.bind ?_ (fun _ => ?_))
theorem impl_DistancesOf.mono : ∀ a0 k, LeO (impl_DistancesOf.f k a0) (impl_DistancesOf.f (k + 1) a0) := by
 intro a0 k
 have ih0 := impl_DistancesOf.mono_l k
 unfold impl_DistancesOf.f
 repeat' (first | (with_reducible first | exact ih0 _ _ _ _ | exact impl_IsRuler.mono _ _ | exact impl_measured.mono _ _ | exact LeO.refl _ | exact LeO.none _ | refine LeO.ite ?_ ?_ | refine LeO.bind ?_ (fun _ => ?_)) | exact ih0 _ _ _ _ | exact impl_IsRuler.mono _ _ | exact impl_measured.mono _ _ | exact LeO.none _ | refine LeO.ite ?_ ?_ | refine LeO.bind ?_ (fun _ => ?_))
set_option maxHeartbeats 8000000 in
set_option maxRecDepth 100000 in
theorem impl_DistancesOf.calls (k : Nat) (A0 : Option Addr) (c0 : Nat) (l0 : List Int) (r1 : List Int) (r2 : Bool) (w : World) (hr0 : Kd.C (Kd.int .i64) w A0 l0.length l0) (hc0 : l0.length ≤ c0) (h : impl_DistancesOf.f k l0 = some (r1, r2)) :
  Calls Try.prog 7 #[.slice A0 l0.length c0] w fun e w' => ∃ v0_ : Value, e = .returned (.tuple #[v0_, .bool r2]) ∧ Kd.R (Kd.int .i64) 3 w' w.heap.size (fun _ => True) v0_ r1 ∧ Below w.heap.size w w' := by
 have HR0 := Aside0.mk hr0
 have HC0 := Aside0.mk hc0
 clear hr0 hc0
 have HB := Aside0.mk (Below.refl w.heap.size w)
 have H := h
 unfold impl_DistancesOf.f at H
 clear h
 replace H := Option.bind_eq_some_iff.mp H
 obtain ⟨t197, A20, H⟩ := H
 replace H : (if t197 = true then ((impl_measured.f k l0).bind fun t198 => (impl_DistancesOf.l0 k ([] : List Int) t198 (t198.length : Int) 0)) else (some (([] : List Int), false))) = some (r1, r2) := H
 have A2 := Aside0.mk A20
 clear A20
 by_cases c3 : t197 = true
 ·subst c3
  have H1 : ((impl_measured.f k l0).bind fun t198 => (impl_DistancesOf.l0 k ([] : List Int) t198 (t198.length : Int) 0)) = some (r1, r2) := by rw [if_pos rfl] at H; exact H
  clear H
  have H := H1
  clear H1
  replace H := Option.bind_eq_some_iff.mp H
  obtain ⟨t198, A40, H⟩ := H
  replace H : (impl_DistancesOf.l0 k ([] : List Int) t198 (t198.length : Int) 0) = some (r1, r2) := H
  have A4 := Aside0.mk A40
  clear A40
  have H' := Aside0.mk H
  clear H
  go_enter Try.func7, Try.ntmps7
  go_wp2_with (first | ((with_reducible refine gate_callee (f := 22) rfl ?_); refine goesA (some 8) Try.func22 #[.slice A0 l0.length c0] ?_; (with_reducible refine (impl_IsRuler.calls k _ _ l0 true _ ?side1 ?side2 A2.out).mono ?_); (case side1 => repeat (first | exact HR0.out | (with_reducible refine Kd.C_alloc ?_ _) | (with_reducible refine Kd.C_drewN ?_ _) | (with_reducible refine Kd.C_drew ?_))); (case side2 => exact HC0.out); rintro e w' ⟨rfl, ⟨nd, rfl⟩⟩; refine ⟨_, rfl, ?_⟩) | ((with_reducible refine gate_callee (f := 59) rfl ?_); refine goesA (some 11) Try.func59 #[.slice A0 l0.length c0] ?_; (with_reducible refine (impl_measured.calls k _ _ l0 t198 _ ?side1 ?side2 A4.out).mono ?_); (case side1 => repeat (first | exact HR0.out | (with_reducible refine Kd.C_alloc ?_ _) | (with_reducible refine Kd.C_drewN ?_ _) | (with_reducible refine Kd.C_drew ?_))); (case side2 => exact HC0.out); rintro e w5 ⟨v199, rfl, ho0, hb⟩; refine ⟨_, rfl, ?_⟩; have HO200 := lowR ho0 HB; replace HB := upB HB hb; (try clear hb); (try clear hb2); (try clear hk); (try clear hi); (try clear ho0); obtain ⟨Ao6, co6, eo6⟩ := Kd.R_slice HO200.out; subst eo6))
  go_loopg [4, 13] k (fun kq v4 v13 w' => ∃ (x4_1 : List Int) (x13_1 : Int), v13 = .int .i64 x13_1 ∧ Aside0 (impl_DistancesOf.l0 kq x4_1 t198 (t198.length : Int) x13_1 = some (r1, r2)) ∧ Aside0 (kq ≤ k) ∧ Aside0 (Kd.R (Kd.int .i64) 3 w' w.heap.size (fun k_ => some k_ ≠ ((.slice Ao6 t198.length co6) : Value).ownBlock) v4 x4_1) ∧ Aside0 (Kd.R (Kd.int .i64) 3 w' w.heap.size (fun k_ => some k_ ≠ (v4 : Value).ownBlock) (.slice Ao6 t198.length co6) t198) ∧ Aside0 (Below w.heap.size w w'))
  case atStart => exact ⟨(([] : List Int)), (0), eqd, H', ⟨Nat.le_refl _⟩, ⟨by first | exact Kd.R_nil _ _ _ _ _ | exact Kd.N_nil _ _ _ _ _ | exact Kd.V_nil _ _ _ _ _ | exact Kd.Q_nil _ _ _ _ _ | exact Kd.S_nil _ _ _ _ _⟩, ⟨by (with_reducible repeat (first | apply Kd.R_alloc | apply Kd.R_drewN | apply Kd.R_drew)); exact Kd.R_mono HO200.out (fun _ hk => (by simp [Value.ownBlock]))⟩, ⟨atB HB⟩⟩
  case round =>
   clear H'
   try clear c2
   try clear p2
   try clear c3
   try clear c5
   obtain ⟨x4_1, x13_1, rfl, HA, HK1, HO_4, HO_11, HB⟩ := hrel
   cases gk with
   | zero => exact absurd HA.out (by simp [impl_DistancesOf.l0])
   | succ k1 =>
    have H := HA.out
    clear HA
    simp only [impl_DistancesOf.l0] at H
    by_cases c7 : x13_1 < (t198.length : Int)
    ·rw [if_pos c7] at H
     have c7b0 : decide (x13_1 < (t198.length : Int)) = true := decide_eq_true c7
     clear c7
     by_cases c8 : 0 ≤ x13_1
     ·rw [if_pos c8] at H
      have c8b0 : decide (0 ≤ x13_1) = true := decide_eq_true c8
      clear c8
      by_cases c9 : x13_1 < (t198.length : Int)
      ·rw [if_pos c9] at H
       have c9b0 : decide (x13_1 < (t198.length : Int)) = true := decide_eq_true c9
       clear c9
       by_cases c10 : (rd t198 x13_1) > 0
       ·rw [if_pos c10] at H
        have c10b0 : decide (0 < (rd t198 x13_1)) = true := decide_eq_true c10
        clear c10
        by_cases c11 : x4_1.length < 17592186044416
        ·rw [if_pos c11] at H
         have LMc11 := Aside0.mk c11
         clear c11
         obtain ⟨y202, hy202⟩ : ∃ y_ : List Int, y_ = (x4_1 ++ [x13_1]) := ⟨_, rfl⟩
         replace H : (impl_DistancesOf.l0 k1 y202 t198 (t198.length : Int) (wrap64 (x13_1 + 1))) = some (r1, r2) := by first | (rw [hy202]; with_reducible exact H) | (have H2_ := (Option.bind_some _ _).symm.trans H; rw [hy202]; with_reducible exact H2_) | (have H2_ := (Option.bind_some _ _).symm.trans H; with_reducible exact H2_) | with_reducible exact H | (rw [hy202]; exact H) | exact H
         have Ny202 := Aside0.mk hy202
         clear hy202
         have H' := Aside0.mk H
         clear H
         have p201 : 0 ≤ (x13_1 : Int) := ofd
         have q201 : x13_1 < (t198.length : Int) := ofd
         obtain ⟨ad201, e201, hx201_0⟩ := Kd.at_int (Kd.R_reads' HO_11.out).2.2 x13_1 p201 q201
         cases e201
         replace p201 := eq_true p201
         replace q201 := eq_true q201
         go_wp2_with (first | ((with_reducible refine gate_builtin (b := .append) (xs := #[.tmp 20, .tmp 22]) rfl ?_); at_builtin; refine Kd.R_append (Kd.int .i64) (w0 := w) w.heap.size rfl (.tmp 20) (.tmp 22) 24 3 (.int .i64 0) 8 rfl Try.underlying24 info3 rfl (by decide) (by omega) u4 x4_1 x13_1 [.int .i64 x13_1] (fun k_ => some k_ ≠ (.slice (some ad201) t198.length co6 : Value).ownBlock) (fun _ => False) rfl rfl ?aP (fun _ hk => hk.elim) ?aF ?aO ?aB ?aS ?aL ?_; (case aP => exact rfl); (case aB => exact (atB HB)); (case aF => exact (fun k_ hk => Kd.fresh' (ltR HO_11) k_ hk)); (case aO => exact (atR HO_4)); (case aS => exact (szB HB)); (case aL => have := LMc11.out; omega); intro v203 w12 ho hb hg hat; rw [← Ny202.out] at ho; have HO204 := Aside0.mk (ho); replace HO_11 := Aside0.mk (Kd.R_after (ok := (fun _ => True)) (by (with_reducible repeat (first | apply Kd.R_alloc | apply Kd.R_drewN | apply Kd.R_drew)); exact Kd.R_mono HO_11.out (fun _ hk => ⟨trivial, hk⟩)) hg hat); replace HB := Aside0.mk (hb); clear HO_4; clear ho hb hg hat))
         go_roundg k1
         case measure => have := HK1.out; omega
         case rel => exact ⟨(y202), (wrap64 (x13_1 + 1)), eqd, H', ⟨by have := HK1.out; omega⟩, ⟨atR HO204⟩, ⟨by (with_reducible repeat (first | apply Kd.R_alloc | apply Kd.R_drewN | apply Kd.R_drew)); exact Kd.R_mono HO_11.out (fun _ hk => hk.2)⟩, ⟨atB HB⟩⟩
        ·rw [if_neg c11] at H
         exact absurd H (by simp)
       ·rw [if_neg c10] at H
        have c10b0 : decide (0 < (rd t198 x13_1)) = false := decide_eq_false c10
        clear c10
        have H' := Aside0.mk H
        clear H
        have p201 : 0 ≤ (x13_1 : Int) := ofd
        have q201 : x13_1 < (t198.length : Int) := ofd
        obtain ⟨ad201, e201, hx201_0⟩ := Kd.at_int (Kd.R_reads' HO_11.out).2.2 x13_1 p201 q201
        cases e201
        replace p201 := eq_true p201
        replace q201 := eq_true q201
        go_wp2
        go_roundg k1
        case measure => have := HK1.out; omega
        case rel => exact ⟨(x4_1), (wrap64 (x13_1 + 1)), eqd, H', ⟨by have := HK1.out; omega⟩, ⟨atR HO_4⟩, ⟨atR HO_11⟩, ⟨atB HB⟩⟩
      ·rw [if_neg c9] at H
       exact absurd H (by simp)
     ·rw [if_neg c8] at H
      exact absurd H (by simp)
    ·rw [if_neg c7] at H
     have c7b0 : decide (x13_1 < (t198.length : Int)) = false := decide_eq_false c7
     clear c7
     simp only [Option.some.injEq, Prod.mk.injEq] at H
     obtain ⟨rfl, rfl⟩ := H
     go_wp2
     go_ret2
     exact ⟨_, eqr, by (with_reducible repeat (first | apply Kd.R_alloc | apply Kd.R_drewN | apply Kd.R_drew)); exact Kd.R_mono HO_4.out (fun _ hk => trivial), atB HB⟩
 ·replace c3 := Bool.eq_false_iff.mpr c3
  subst c3
  have H1 : (some (([] : List Int), false)) = some (r1, r2) := by rw [if_neg (show ¬ (false = true) by decide)] at H; exact H
  clear H
  have H := H1
  clear H1
  simp only [Option.some.injEq, Prod.mk.injEq] at H
  obtain ⟨rfl, rfl⟩ := H
  go_enter Try.func7, Try.ntmps7
  go_wp2_with (first | ((with_reducible refine gate_callee (f := 22) rfl ?_); refine goesA (some 8) Try.func22 #[.slice A0 l0.length c0] ?_; (with_reducible refine (impl_IsRuler.calls k _ _ l0 false _ ?side1 ?side2 A2.out).mono ?_); (case side1 => repeat (first | exact HR0.out | (with_reducible refine Kd.C_alloc ?_ _) | (with_reducible refine Kd.C_drewN ?_ _) | (with_reducible refine Kd.C_drew ?_))); (case side2 => exact HC0.out); rintro e w' ⟨rfl, ⟨nd, rfl⟩⟩; refine ⟨_, rfl, ?_⟩))
  go_ret2
  exact ⟨_, eqr, by first | exact Kd.R_nil _ _ _ _ _ | exact Kd.N_nil _ _ _ _ _ | exact Kd.V_nil _ _ _ _ _ | exact Kd.Q_nil _ _ _ _ _ | exact Kd.S_nil _ _ _ _ _, atB HB⟩

noncomputable def impl_DistancesOf.L0 (x4 : List Int) (x11 : List Int) (x12 : Int) (x13 : Int) : Option (List Int × Bool) := lim fun k => impl_DistancesOf.l0 k x4 x11 x12 x13
theorem impl_DistancesOf.L0_lim (x4 : List Int) (x11 : List Int) (x12 : Int) (x13 : Int) : Lim (fun k => impl_DistancesOf.l0 k x4 x11 x12 x13) (impl_DistancesOf.L0 x4 x11 x12 x13) := Lim.of fun k => (impl_DistancesOf.mono_l k) x4 x11 x12 x13
noncomputable def impl_DistancesOf.F (l0 : List Int) : Option (List Int × Bool) := lim fun k => impl_DistancesOf.f k l0
theorem impl_DistancesOf.F_lim (l0 : List Int) : Lim (fun k => impl_DistancesOf.f k l0) (impl_DistancesOf.F l0) := Lim.of fun k => impl_DistancesOf.mono l0 k
theorem impl_DistancesOf.L0_eq (x4 : List Int) (x11 : List Int) (x12 : Int) (x13 : Int) : impl_DistancesOf.L0 x4 x11 x12 x13 = (if x13 < x12 then (if 0 ≤ x13 then (if x13 < (x11.length : Int) then (if (rd x11 x13) > 0 then (if x4.length < 17592186044416 then (impl_DistancesOf.L0 (x4 ++ [x13]) x11 x12 (wrap64 (x13 + 1))) else (none)) else (impl_DistancesOf.L0 x4 x11 x12 (wrap64 (x13 + 1)))) else (none)) else (none)) else (some (x4, true))) :=
 Lim.step (f := fun k => impl_DistancesOf.l0 (k + 1) x4 x11 x12 x13) (impl_DistancesOf.L0_lim x4 x11 x12 x13) (fun _ => rfl) (by
  simp only [impl_DistancesOf.l0]
  repeat' (first | (with_reducible first | exact Lim.const _ | exact impl_DistancesOf.L0_lim _ _ _ _ | refine Lim.ite ?_ ?_ | refine Lim.bind ?_ (fun _ => ?_))))
theorem impl_DistancesOf.F_eq (l0 : List Int) : impl_DistancesOf.F l0 = ((impl_IsRuler.F l0).bind fun t197 => (if t197 = true then ((impl_measured.F l0).bind fun t198 => (impl_DistancesOf.L0 ([] : List Int) t198 (t198.length : Int) 0)) else (some (([] : List Int), false)))) :=
 Lim.unique (impl_DistancesOf.F_lim l0) (by
  unfold impl_DistancesOf.f
  repeat' (first | (with_reducible first | exact Lim.const _ | exact impl_DistancesOf.L0_lim _ _ _ _ | exact impl_IsRuler.F_lim _ | exact impl_measured.F_lim _ | refine Lim.ite ?_ ?_ | refine Lim.bind ?_ (fun _ => ?_))))

end Go.Proofs.Ytofjndbpndpjjaa.Fn
namespace Go.Proofs.Ytofjndbpndpjjaa.Fn
open Go.RowKit Go.Proofs.YtofjndbpndpjjaaW.PrintWords Go.Proofs.YtofjndbpndpjjaaW.PrintLast Go.Proofs.YtofjndbpndpjjaaW.PrintMore
attribute [local go_sem] max2_int min2_int max_two min_two max_three min_three max_four min_four   -- for this text's walks alone
set_option linter.unusedVariables false
set_option linter.unusedSimpArgs false

/-! ### slices_Max_int_int: function 92 -/
def slices_Max_int_int.l0 : Nat → List Int → Int → Int → Option (Int)
 | 0, _, _, _ => none
 | k + 1, x0, x3, x4 => if x4 < (x0.length : Int) then (if 0 ≤ x4 then (slices_Max_int_int.l0 k x0 (mx x3 (rd x0 x4)) (wrap64 (x4 + 1))) else (none)) else (some x3)
def slices_Max_int_int.f (k : Nat) (l0 : List Int) : Option (Int) := if (l0.length : Int) < 1 then (none) else (if 0 < (l0.length : Int) then (slices_Max_int_int.l0 k l0 (rd l0 0) 1) else (none))
theorem slices_Max_int_int.mono_l : ∀ k, (∀ y0 y1 y2, LeO (slices_Max_int_int.l0 k y0 y1 y2) (slices_Max_int_int.l0 (k + 1) y0 y1 y2))
 | 0 => fun _ _ _ r h => by simp [slices_Max_int_int.l0] at h
 | k + 1 => by
  have ih0 := slices_Max_int_int.mono_l k
  ·intro y0 y1 y2
   unfold slices_Max_int_int.l0
   repeat' (first | (with_reducible first | exact ih0 _ _ _ | exact LeO.refl _ | exact LeO.none _ | refine LeO.ite ?_ ?_ | refine LeO.bind ?_ (fun _ => ?_)) | exact ih0 _ _ _ | exact LeO.none _ | refine LeO.ite ?_ ?_ | refine LeO.bind ?_ (fun _ => ?_))
theorem slices_Max_int_int.mono : ∀ a0 k, LeO (slices_Max_int_int.f k a0) (slices_Max_int_int.f (k + 1) a0) := by
 intro a0 k
 have ih0 := slices_Max_int_int.mono_l k
 unfold slices_Max_int_int.f
 repeat' (first | (with_reducible first | exact ih0 _ _ _ | exact LeO.refl _ | exact LeO.none _ | refine LeO.ite ?_ ?_ | refine LeO.bind ?_ (fun _ => ?_)) | exact ih0 _ _ _ | exact LeO.none _ | refine LeO.ite ?_ ?_ | refine LeO.bind ?_ (fun _ => ?_))
set_option maxHeartbeats 8000000 in
set_option maxRecDepth 100000 in
theorem slices_Max_int_int.calls (k : Nat) (A0 : Option Addr) (c0 : Nat) (l0 : List Int) (r : Int) (w : World) (hr0 : Kd.C (Kd.int .i64) w A0 l0.length l0) (hc0 : l0.length ≤ c0) (h : slices_Max_int_int.f k l0 = some r) :
  Calls Try.prog 92 #[.slice A0 l0.length c0] w fun e w' => e = .returned (.int .i64 r) ∧ Below w.heap.size w w' := by
 have HR0 := Aside0.mk hr0
 have HC0 := Aside0.mk hc0
 clear hr0 hc0
 have HB := Aside0.mk (Below.refl w.heap.size w)
 have H := h
 unfold slices_Max_int_int.f at H
 clear h
 by_cases c2 : (l0.length : Int) < 1
 ·rw [if_pos c2] at H
  exact absurd H (by simp)
 ·rw [if_neg c2] at H
  have c2b0 : decide ((l0.length : Int) < 1) = false := decide_eq_false c2
  have c2b1 : decide (l0.length < 1) = false := decide_eq_false (by omega)
  clear c2
  by_cases c3 : 0 < (l0.length : Int)
  ·rw [if_pos c3] at H
   have c3b0 : decide (0 < (l0.length : Int)) = true := decide_eq_true c3
   have c3b1 : decide (0 < l0.length) = true := decide_eq_true (by omega)
   clear c3
   have H' := Aside0.mk H
   clear H
   have p238 : 0 ≤ (0 : Int) := (by omega)
   have q238 : 0 < (l0.length : Int) := ofd
   obtain ⟨ad238, e238, hx238_0⟩ := Kd.at_int HR0.out 0 p238 q238
   cases e238
   have qi238 : (0 < l0.length) = True := eq_true (by omega)
   (try rw [show ((0 : Int)).toNat = 0 from rfl] at hx238_0)
   (try rw [Addr.add_zero'] at hx238_0)
   replace p238 := eq_true p238
   replace q238 := eq_true q238
   go_enter Try.func92, Try.ntmps92
   go_wp2
   go_loopg [3, 4] k (fun kq v3 v4 w' => ∃ (x3_1 : Int) (x4_1 : Int), v3 = .int .i64 x3_1 ∧ v4 = .int .i64 x4_1 ∧ Aside0 (slices_Max_int_int.l0 kq l0 x3_1 x4_1 = some r) ∧ Aside0 (kq ≤ k) ∧ Aside0 (Below w.heap.size w w'))
   case atStart => exact ⟨(rd l0 0), (1), eqd, eqd, H', ⟨Nat.le_refl _⟩, ⟨atB HB⟩⟩
   case round =>
    clear H'
    try clear c2
    try clear c2b0
    try clear c2b1
    try clear p2
    try clear q2
    try clear hx2
    try clear qi2
    try clear c3
    try clear c3b0
    try clear c3b1
    try clear hx238_0
    try clear p238
    try clear q238
    obtain ⟨x3_1, x4_1, rfl, rfl, HA, HK1, HB⟩ := hrel
    cases gk with
    | zero => exact absurd HA.out (by simp [slices_Max_int_int.l0])
    | succ k1 =>
     have H := HA.out
     clear HA
     simp only [slices_Max_int_int.l0] at H
     by_cases c4 : x4_1 < (l0.length : Int)
     ·rw [if_pos c4] at H
      have c4b0 : decide (x4_1 < (l0.length : Int)) = true := decide_eq_true c4
      clear c4
      by_cases c5 : 0 ≤ x4_1
      ·rw [if_pos c5] at H
       have c5b0 : decide (0 ≤ x4_1) = true := decide_eq_true c5
       clear c5
       obtain ⟨ji6, hji6⟩ : ∃ j_ : Int, (mx x3_1 (rd l0 x4_1)) = j_ := ⟨_, rfl⟩
       replace H : (slices_Max_int_int.l0 k1 l0 ji6 (wrap64 (x4_1 + 1))) = some r := by first | (rw [hji6] at H; exact H) | (simp only [hji6] at H ⊢; exact H)
       have hji6_ : (if x3_1 < (rd l0 x4_1) then (rd l0 x4_1) else x3_1) = ji6 := hji6
       have H' := Aside0.mk H
       clear H
       have p239 : 0 ≤ (x4_1 : Int) := ofd
       have q239 : x4_1 < (l0.length : Int) := ofd
       obtain ⟨ad239, e239, hx239_0⟩ := Kd.at_int HR0.out x4_1 p239 q239
       obtain rfl : ad238 = ad239 := (by injection e239)
       (try replace hx239_0 := (HB.out.cell (World.block_lt_of_cell? w _ hx239_0)).trans hx239_0)
       replace p239 := eq_true p239
       replace q239 := eq_true q239
       go_wp2
       first | go_roundg k1 | ((try subst hji6); go_roundg k1)
       case measure => have := HK1.out; omega
       case rel => exact ⟨(ji6), (wrap64 (x4_1 + 1)), (by first | rfl | (simp; done) | (simp only [← hji6] <;> (first | rfl | simp)) | (simp [*]; done)), eqd, H', ⟨by have := HK1.out; omega⟩, ⟨atB HB⟩⟩
      ·rw [if_neg c5] at H
       exact absurd H (by simp)
     ·rw [if_neg c4] at H
      have c4b0 : decide (x4_1 < (l0.length : Int)) = false := decide_eq_false c4
      clear c4
      obtain rfl := Option.some.inj H
      go_wp2
      go_ret
      exact ⟨eqr, atB HB⟩
  ·rw [if_neg c3] at H
   exact absurd H (by simp)

noncomputable def slices_Max_int_int.L0 (x0 : List Int) (x3 : Int) (x4 : Int) : Option (Int) := lim fun k => slices_Max_int_int.l0 k x0 x3 x4
theorem slices_Max_int_int.L0_lim (x0 : List Int) (x3 : Int) (x4 : Int) : Lim (fun k => slices_Max_int_int.l0 k x0 x3 x4) (slices_Max_int_int.L0 x0 x3 x4) := Lim.of fun k => (slices_Max_int_int.mono_l k) x0 x3 x4
noncomputable def slices_Max_int_int.F (l0 : List Int) : Option (Int) := lim fun k => slices_Max_int_int.f k l0
theorem slices_Max_int_int.F_lim (l0 : List Int) : Lim (fun k => slices_Max_int_int.f k l0) (slices_Max_int_int.F l0) := Lim.of fun k => slices_Max_int_int.mono l0 k
theorem slices_Max_int_int.L0_eq (x0 : List Int) (x3 : Int) (x4 : Int) : slices_Max_int_int.L0 x0 x3 x4 = (if x4 < (x0.length : Int) then (if 0 ≤ x4 then (slices_Max_int_int.L0 x0 (mx x3 (rd x0 x4)) (wrap64 (x4 + 1))) else (none)) else (some x3)) :=
 Lim.step (f := fun k => slices_Max_int_int.l0 (k + 1) x0 x3 x4) (slices_Max_int_int.L0_lim x0 x3 x4) (fun _ => rfl) (by
  simp only [slices_Max_int_int.l0]
  repeat' (first | (with_reducible first | exact Lim.const _ | exact slices_Max_int_int.L0_lim _ _ _ | refine Lim.ite ?_ ?_ | refine Lim.bind ?_ (fun _ => ?_))))
theorem slices_Max_int_int.F_eq (l0 : List Int) : slices_Max_int_int.F l0 = (if (l0.length : Int) < 1 then (none) else (if 0 < (l0.length : Int) then (slices_Max_int_int.L0 l0 (rd l0 0) 1) else (none))) :=
 Lim.unique (slices_Max_int_int.F_lim l0) (by
  unfold slices_Max_int_int.f
  repeat' (first | (with_reducible first | exact Lim.const _ | exact slices_Max_int_int.L0_lim _ _ _ | refine Lim.ite ?_ ?_ | refine Lim.bind ?_ (fun _ => ?_))))

end Go.Proofs.Ytofjndbpndpjjaa.Fn
namespace Go.Proofs.Ytofjndbpndpjjaa.Fn
open Go.RowKit Go.Proofs.YtofjndbpndpjjaaW.PrintWords Go.Proofs.YtofjndbpndpjjaaW.PrintLast Go.Proofs.YtofjndbpndpjjaaW.PrintMore
attribute [local go_sem] max2_int min2_int max_two min_two max_three min_three max_four min_four   -- for this text's walks alone
set_option linter.unusedVariables false
set_option linter.unusedSimpArgs false

/-! ### impl_different: function 63 -/
def impl_different.f (k : Nat) (l0 : List Int) : Option (Bool) := (impl_measured.f k l0).bind fun t240 => ((slices_Max_int_int.f k t240).bind fun t243 => (some (decide (t243 ≤ 1))))
theorem impl_different.mono : ∀ a0 k, LeO (impl_different.f k a0) (impl_different.f (k + 1) a0) := by
 intro a0 k
 unfold impl_different.f
 repeat' (first | (with_reducible first | exact impl_measured.mono _ _ | exact slices_Max_int_int.mono _ _ | exact LeO.refl _ | exact LeO.none _ | refine LeO.ite ?_ ?_ | refine LeO.bind ?_ (fun _ => ?_)) | exact impl_measured.mono _ _ | exact slices_Max_int_int.mono _ _ | exact LeO.none _ | refine LeO.ite ?_ ?_ | refine LeO.bind ?_ (fun _ => ?_))
set_option maxHeartbeats 8000000 in
set_option maxRecDepth 100000 in
theorem impl_different.calls (k : Nat) (A0 : Option Addr) (c0 : Nat) (l0 : List Int) (r : Bool) (w : World) (hr0 : Kd.C (Kd.int .i64) w A0 l0.length l0) (hc0 : l0.length ≤ c0) (h : impl_different.f k l0 = some r) :
  Calls Try.prog 63 #[.slice A0 l0.length c0] w fun e w' => e = .returned (.bool r) ∧ Below w.heap.size w w' := by
 have HR0 := Aside0.mk hr0
 have HC0 := Aside0.mk hc0
 clear hr0 hc0
 have HB := Aside0.mk (Below.refl w.heap.size w)
 have H := h
 unfold impl_different.f at H
 clear h
 replace H := Option.bind_eq_some_iff.mp H
 obtain ⟨t240, A20, H⟩ := H
 replace H : ((slices_Max_int_int.f k t240).bind fun t243 => (some (decide (t243 ≤ 1)))) = some r := H
 have A2 := Aside0.mk A20
 clear A20
 replace H := Option.bind_eq_some_iff.mp H
 obtain ⟨t243, A30, H⟩ := H
 replace H : (some (decide (t243 ≤ 1))) = some r := H
 have A3 := Aside0.mk A30
 clear A30
 obtain rfl := Option.some.inj H
 go_enter Try.func63, Try.ntmps63
 go_wp2_with (first | ((with_reducible refine gate_callee (f := 59) rfl ?_); refine goesA (some 4) Try.func59 #[.slice A0 l0.length c0] ?_; (with_reducible refine (impl_measured.calls k _ _ l0 t240 _ ?side1 ?side2 A2.out).mono ?_); (case side1 => repeat (first | exact HR0.out | (with_reducible refine Kd.C_alloc ?_ _) | (with_reducible refine Kd.C_drewN ?_ _) | (with_reducible refine Kd.C_drew ?_))); (case side2 => exact HC0.out); rintro e w4 ⟨v241, rfl, ho0, hb⟩; refine ⟨_, rfl, ?_⟩; have HO242 := lowR ho0 HB; replace HB := upB HB hb; (try clear hb); (try clear hb2); (try clear hk); (try clear hi); (try clear ho0); obtain ⟨Ao5, co5, eo5⟩ := Kd.R_slice HO242.out; subst eo5) | ((with_reducible refine gate_callee (f := 92) rfl ?_); refine goesA (some 5) Try.func92 #[.slice Ao5 t240.length co5] ?_; (with_reducible refine (slices_Max_int_int.calls k _ _ t240 t243 _ ?side1 ?side2 A3.out).mono ?_); (case side1 => exact atRC HO242); (case side2 => exact (Kd.R_reads' HO242.out).2.1); rintro e w6 ⟨rfl, hb⟩; refine ⟨_, rfl, ?_⟩; replace HO242 := upR HO242 hb; replace HB := upB HB hb; (try clear hb); (try clear hb2); (try clear hk); (try clear hi)))
 go_ret
 exact ⟨eqr, atB HB⟩

noncomputable def impl_different.F (l0 : List Int) : Option (Bool) := lim fun k => impl_different.f k l0
theorem impl_different.F_lim (l0 : List Int) : Lim (fun k => impl_different.f k l0) (impl_different.F l0) := Lim.of fun k => impl_different.mono l0 k
theorem impl_different.F_eq (l0 : List Int) : impl_different.F l0 = ((impl_measured.F l0).bind fun t240 => ((slices_Max_int_int.F t240).bind fun t243 => (some (decide (t243 ≤ 1))))) :=
 Lim.unique (impl_different.F_lim l0) (by
  unfold impl_different.f
  repeat' (first | (with_reducible first | exact Lim.const _ | exact impl_measured.F_lim _ | exact slices_Max_int_int.F_lim _ | refine Lim.ite ?_ ?_ | refine Lim.bind ?_ (fun _ => ?_))))

end Go.Proofs.Ytofjndbpndpjjaa.Fn
namespace Go.Proofs.Ytofjndbpndpjjaa.Fn
open Go.RowKit Go.Proofs.YtofjndbpndpjjaaW.PrintWords Go.Proofs.YtofjndbpndpjjaaW.PrintLast Go.Proofs.YtofjndbpndpjjaaW.PrintMore
attribute [local go_sem] max2_int min2_int max_two min_two max_three min_three max_four min_four   -- for this text's walks alone
set_option linter.unusedVariables false
set_option linter.unusedSimpArgs false

/-! ### impl_FreeMarks: function 19 -/
mutual
def impl_FreeMarks.j0 : Nat → List Int → Bool → Option (List Int × Bool)
 | 0, _, _ => none
 | k + 1, x0, x15 => if x15 = true then (some (([] : List Int), false)) else (impl_FreeMarks.l0 k x0 ([] : List Int) 1)
def impl_FreeMarks.l0 : Nat → List Int → List Int → Int → Option (List Int × Bool)
 | 0, _, _, _ => none
 | k + 1, x0, x4, x5 => if 0 ≤ (wrap64 ((x0.length : Int) - 1)) then (if (wrap64 ((x0.length : Int) - 1)) < (x0.length : Int) then (if x5 < (rd x0 (wrap64 ((x0.length : Int) - 1))) then ((impl_AddMark.f k x0 x5).bind fun bt410 => (if bt410.2 = true then ((impl_different.f k bt410.1).bind fun t414 => (if t414 = true then (if x4.length < 17592186044416 then (impl_FreeMarks.l0 k x0 (x4 ++ [x5]) (wrap64 (x5 + 1))) else (none)) else (impl_FreeMarks.l0 k x0 x4 (wrap64 (x5 + 1))))) else (impl_FreeMarks.l0 k x0 x4 (wrap64 (x5 + 1))))) else (some (x4, true))) else (none)) else (none)
end
def impl_FreeMarks.f (k : Nat) (l0 : List Int) : Option (List Int × Bool) := (impl_IsRuler.f k l0).bind fun t407 => (if t407 = true then ((impl_different.f k l0).bind fun t408 => (impl_FreeMarks.j0 k l0 (!t408))) else (impl_FreeMarks.j0 k l0 true))
theorem impl_FreeMarks.mono_l : ∀ k, (∀ y0 y1, LeO (impl_FreeMarks.j0 k y0 y1) (impl_FreeMarks.j0 (k + 1) y0 y1)) ∧ (∀ y0 y1 y2, LeO (impl_FreeMarks.l0 k y0 y1 y2) (impl_FreeMarks.l0 (k + 1) y0 y1 y2))
 | 0 => ⟨fun _ _ r h => by simp [impl_FreeMarks.j0] at h, fun _ _ _ r h => by simp [impl_FreeMarks.l0] at h⟩
 | k + 1 => by
  obtain ⟨ih0, ih1⟩ := impl_FreeMarks.mono_l k
  refine ⟨?_, ?_⟩
  ·intro y0 y1
   unfold impl_FreeMarks.j0
   repeat' (first | (with_reducible first | exact ih1 _ _ _ | exact LeO.refl _ | exact LeO.none _ | refine LeO.ite ?_ ?_ | refine LeO.bind ?_ (fun _ => ?_)) | exact ih1 _ _ _ | exact LeO.none _ | refine LeO.ite ?_ ?_ | refine LeO.bind ?_ (fun _ => ?_))
  ·intro y0 y1 y2
   unfold impl_FreeMarks.l0
   repeat' (first | (with_reducible first | exact ih1 _ _ _ | exact impl_AddMark.mono _ _ _ | exact impl_different.mono _ _ | exact LeO.refl _ | exact LeO.none _ | refine LeO.ite ?_ ?_ | refine LeO.bind ?_ (fun _ => ?_)) | exact ih1 _ _ _ | exact impl_AddMark.mono _ _ _ | exact impl_different.mono _ _ | exact LeO.none _ | refine LeO.ite ?_ ?_ | refine LeO.bind ?_ (fun _ => ?_))
theorem impl_FreeMarks.mono : ∀ a0 k, LeO (impl_FreeMarks.f k a0) (impl_FreeMarks.f (k + 1) a0) := by
 intro a0 k
 obtain ⟨ih0, ih1⟩ := impl_FreeMarks.mono_l k
 unfold impl_FreeMarks.f
 repeat' (first | (with_reducible first | exact ih0 _ _ | exact impl_IsRuler.mono _ _ | exact impl_different.mono _ _ | exact LeO.refl _ | exact LeO.none _ | refine LeO.ite ?_ ?_ | refine LeO.bind ?_ (fun _ => ?_)) | exact ih0 _ _ | exact impl_IsRuler.mono _ _ | exact impl_different.mono _ _ | exact LeO.none _ | refine LeO.ite ?_ ?_ | refine LeO.bind ?_ (fun _ => ?_))
set_option maxHeartbeats 8000000 in
set_option maxRecDepth 100000 in
theorem impl_FreeMarks.calls (k : Nat) (A0 : Option Addr) (c0 : Nat) (l0 : List Int) (r1 : List Int) (r2 : Bool) (w : World) (hr0 : Kd.C (Kd.int .i64) w A0 l0.length l0) (hc0 : l0.length ≤ c0) (h : impl_FreeMarks.f k l0 = some (r1, r2)) :
  Calls Try.prog 19 #[.slice A0 l0.length c0] w fun e w' => ∃ v0_ : Value, e = .returned (.tuple #[v0_, .bool r2]) ∧ Kd.R (Kd.int .i64) 3 w' w.heap.size (fun _ => True) v0_ r1 ∧ Below w.heap.size w w' := by
 have HR0 := Aside0.mk hr0
 have HC0 := Aside0.mk hc0
 clear hr0 hc0
 have HB := Aside0.mk (Below.refl w.heap.size w)
 have H := h
 unfold impl_FreeMarks.f at H
 clear h
 have HC2 := Aside0.mk H
 clear H
 go_enter Try.func19, Try.ntmps19
 go_upto_region 1 with (fail)
 go_cut [15] (fun v15 wc => ∃ (kq : Nat) (x15_1 : Bool), v15 = .bool x15_1 ∧ Aside0 (impl_FreeMarks.j0 kq l0 x15_1 = some (r1, r2)) ∧ Aside0 (kq ≤ k) ∧ Aside0 (Below w.heap.size w wc))
 case first =>
  have H := HC2.out
  clear HC2
  replace H := Option.bind_eq_some_iff.mp H
  obtain ⟨t407, A30, H⟩ := H
  replace H : (if t407 = true then ((impl_different.f k l0).bind fun t408 => (impl_FreeMarks.j0 k l0 (!t408))) else (impl_FreeMarks.j0 k l0 true)) = some (r1, r2) := H
  have A3 := Aside0.mk A30
  clear A30
  by_cases c4 : t407 = true
  ·subst c4
   have H1 : ((impl_different.f k l0).bind fun t408 => (impl_FreeMarks.j0 k l0 (!t408))) = some (r1, r2) := by rw [if_pos rfl] at H; exact H
   clear H
   have H := H1
   clear H1
   replace H := Option.bind_eq_some_iff.mp H
   obtain ⟨t408, A50, H⟩ := H
   replace H : (impl_FreeMarks.j0 k l0 (!t408)) = some (r1, r2) := H
   have A5 := Aside0.mk A50
   clear A50
   have H' := Aside0.mk H
   clear H
   go_wp2_with (first | ((with_reducible refine gate_callee (f := 22) rfl ?_); refine goesA (some 9) Try.func22 #[.slice A0 l0.length c0] ?_; (with_reducible refine (impl_IsRuler.calls k _ _ l0 true _ ?side1 ?side2 A3.out).mono ?_); (case side1 => repeat (first | exact (Kd.C_below HR0.out HB.out) | (with_reducible refine Kd.C_alloc ?_ _) | (with_reducible refine Kd.C_drewN ?_ _) | (with_reducible refine Kd.C_drew ?_))); (case side2 => exact HC0.out); rintro e w' ⟨rfl, ⟨nd, rfl⟩⟩; refine ⟨_, rfl, ?_⟩) | (go_at_call 63; (with_reducible refine (impl_different.calls k _ _ l0 t408 _ ?side1 ?side2 A5.out).mono ?_); (case side1 => repeat (first | exact (Kd.C_below HR0.out (atB HB)) | (with_reducible refine Kd.C_alloc ?_ _) | (with_reducible refine Kd.C_drewN ?_ _) | (with_reducible refine Kd.C_drew ?_))); (case side2 => exact HC0.out); rintro e w6 ⟨rfl, hb⟩; replace HB := upB HB hb; (try clear hb); (try clear hb2); (try clear hk); (try clear hi)))
   go_meet
   case rel => exact ⟨_, (!t408), eqd, H', ⟨leD⟩, ⟨atB HB⟩⟩
  ·replace c4 := Bool.eq_false_iff.mpr c4
   subst c4
   have H1 : (impl_FreeMarks.j0 k l0 true) = some (r1, r2) := by rw [if_neg (show ¬ (false = true) by decide)] at H; exact H
   clear H
   have H := H1
   clear H1
   have H' := Aside0.mk H
   clear H
   go_wp2_with (first | ((with_reducible refine gate_callee (f := 22) rfl ?_); refine goesA (some 9) Try.func22 #[.slice A0 l0.length c0] ?_; (with_reducible refine (impl_IsRuler.calls k _ _ l0 false _ ?side1 ?side2 A3.out).mono ?_); (case side1 => repeat (first | exact (Kd.C_below HR0.out HB.out) | (with_reducible refine Kd.C_alloc ?_ _) | (with_reducible refine Kd.C_drewN ?_ _) | (with_reducible refine Kd.C_drew ?_))); (case side2 => exact HC0.out); rintro e w' ⟨rfl, ⟨nd, rfl⟩⟩; refine ⟨_, rfl, ?_⟩))
   go_meet
   case rel => exact ⟨_, (true), eqd, H', ⟨leD⟩, ⟨atB HB⟩⟩
 case rest =>
  clear HC2
  try clear c1
  try clear c2
  try clear p2
  try clear c4
  obtain ⟨kq, x15_1, rfl, HA, HJ1, HB⟩ := hcut
  cases kq with
  | zero => exact absurd HA.out (by simp [impl_FreeMarks.j0])
  | succ kj1 =>
   have H := HA.out
   clear HA
   simp only [impl_FreeMarks.j0] at H
   by_cases c7 : x15_1 = true
   ·subst c7
    have H1 : (some (([] : List Int), false)) = some (r1, r2) := by rw [if_pos rfl] at H; exact H
    clear H
    have H := H1
    clear H1
    simp only [Option.some.injEq, Prod.mk.injEq] at H
    obtain ⟨rfl, rfl⟩ := H
    go_wp2
    go_ret2
    exact ⟨_, eqr, by first | exact Kd.R_nil _ _ _ _ _ | exact Kd.N_nil _ _ _ _ _ | exact Kd.V_nil _ _ _ _ _ | exact Kd.Q_nil _ _ _ _ _ | exact Kd.S_nil _ _ _ _ _, atB HB⟩
   ·replace c7 := Bool.eq_false_iff.mpr c7
    subst c7
    have H1 : (impl_FreeMarks.l0 kj1 l0 ([] : List Int) 1) = some (r1, r2) := by rw [if_neg (show ¬ (false = true) by decide)] at H; exact H
    clear H
    have H := H1
    clear H1
    have H' := Aside0.mk H
    clear H
    go_wp2
    go_loopg [4, 5] kj1 (fun kq v4 v5 w' => ∃ (x4_2 : List Int) (x5_2 : Int), v5 = .int .i64 x5_2 ∧ Aside0 (impl_FreeMarks.l0 kq l0 x4_2 x5_2 = some (r1, r2)) ∧ Aside0 (kq ≤ kj1) ∧ Aside0 (Kd.R (Kd.int .i64) 3 w' w.heap.size (fun _ => True) v4 x4_2) ∧ Aside0 (Below w.heap.size w w'))
    case atStart => exact ⟨(([] : List Int)), (1), eqd, H', ⟨Nat.le_refl _⟩, ⟨by first | exact Kd.R_nil _ _ _ _ _ | exact Kd.N_nil _ _ _ _ _ | exact Kd.V_nil _ _ _ _ _ | exact Kd.Q_nil _ _ _ _ _ | exact Kd.S_nil _ _ _ _ _⟩, ⟨atB HB⟩⟩
    case round =>
     clear H'
     try clear c1
     try clear c2
     try clear p2
     try clear c4
     try clear c7
     try clear p2
     obtain ⟨x4_2, x5_2, rfl, HA, HK2, HO_4, HB⟩ := hrel
     cases gk with
     | zero => exact absurd HA.out (by simp [impl_FreeMarks.l0])
     | succ k2 =>
      have H := HA.out
      clear HA
      simp only [impl_FreeMarks.l0] at H
      obtain ⟨ji8, hji8⟩ : ∃ j_ : Int, (wrap64 ((l0.length : Int) - 1)) = j_ := ⟨_, rfl⟩
      replace H : (if 0 ≤ (ji8) then (if (ji8) < (l0.length : Int) then (if x5_2 < (rd l0 (ji8)) then ((impl_AddMark.f k2 l0 x5_2).bind fun bt410 => (if bt410.2 = true then ((impl_different.f k2 bt410.1).bind fun t414 => (if t414 = true then (if x4_2.length < 17592186044416 then (impl_FreeMarks.l0 k2 l0 (x4_2 ++ [x5_2]) (wrap64 (x5_2 + 1))) else (none)) else (impl_FreeMarks.l0 k2 l0 x4_2 (wrap64 (x5_2 + 1))))) else (impl_FreeMarks.l0 k2 l0 x4_2 (wrap64 (x5_2 + 1))))) else (some (x4_2, true))) else (none)) else (none)) = some (r1, r2) := by first | (rw [hji8] at H; exact H) | (simp only [hji8] at H ⊢; exact H)
      have hji8w : (IntKind.i64.wrap ((l0.length : Int) - 1)) = ji8 := (i64_w _).trans hji8
      by_cases c9 : 0 ≤ (ji8)
      ·rw [if_pos c9] at H
       have c9b0 : decide (0 ≤ (ji8)) = true := decide_eq_true c9
       clear c9
       by_cases c10 : (ji8) < (l0.length : Int)
       ·rw [if_pos c10] at H
        have c10b0 : decide ((ji8) < (l0.length : Int)) = true := decide_eq_true c10
        clear c10
        by_cases c11 : x5_2 < (rd l0 (ji8))
        ·rw [if_pos c11] at H
         have c11b0 : decide (x5_2 < (rd l0 (ji8))) = true := decide_eq_true c11
         clear c11
         replace H := Option.bind_eq_some_iff.mp H
         obtain ⟨⟨t410, t411⟩, A120, H⟩ := H
         replace H : (if t411 = true then ((impl_different.f k2 t410).bind fun t414 => (if t414 = true then (if x4_2.length < 17592186044416 then (impl_FreeMarks.l0 k2 l0 (x4_2 ++ [x5_2]) (wrap64 (x5_2 + 1))) else (none)) else (impl_FreeMarks.l0 k2 l0 x4_2 (wrap64 (x5_2 + 1))))) else (impl_FreeMarks.l0 k2 l0 x4_2 (wrap64 (x5_2 + 1)))) = some (r1, r2) := H
         have A12 := Aside0.mk A120
         clear A120
         by_cases c13 : t411 = true
         ·subst c13
          have H1 : ((impl_different.f k2 t410).bind fun t414 => (if t414 = true then (if x4_2.length < 17592186044416 then (impl_FreeMarks.l0 k2 l0 (x4_2 ++ [x5_2]) (wrap64 (x5_2 + 1))) else (none)) else (impl_FreeMarks.l0 k2 l0 x4_2 (wrap64 (x5_2 + 1))))) = some (r1, r2) := by rw [if_pos rfl] at H; exact H
          clear H
          have H := H1
          clear H1
          replace H := Option.bind_eq_some_iff.mp H
          obtain ⟨t414, A140, H⟩ := H
          replace H : (if t414 = true then (if x4_2.length < 17592186044416 then (impl_FreeMarks.l0 k2 l0 (x4_2 ++ [x5_2]) (wrap64 (x5_2 + 1))) else (none)) else (impl_FreeMarks.l0 k2 l0 x4_2 (wrap64 (x5_2 + 1)))) = some (r1, r2) := H
          have A14 := Aside0.mk A140
          clear A140
          by_cases c15 : t414 = true
          ·subst c15
           have H1 : (if x4_2.length < 17592186044416 then (impl_FreeMarks.l0 k2 l0 (x4_2 ++ [x5_2]) (wrap64 (x5_2 + 1))) else (none)) = some (r1, r2) := by rw [if_pos rfl] at H; exact H
           clear H
           have H := H1
           clear H1
           by_cases c16 : x4_2.length < 17592186044416
           ·rw [if_pos c16] at H
            have LMc16 := Aside0.mk c16
            clear c16
            obtain ⟨y415, hy415⟩ : ∃ y_ : List Int, y_ = (x4_2 ++ [x5_2]) := ⟨_, rfl⟩
            replace H : (impl_FreeMarks.l0 k2 l0 y415 (wrap64 (x5_2 + 1))) = some (r1, r2) := by first | (rw [hy415]; with_reducible exact H) | (have H2_ := (Option.bind_some _ _).symm.trans H; rw [hy415]; with_reducible exact H2_) | (have H2_ := (Option.bind_some _ _).symm.trans H; with_reducible exact H2_) | with_reducible exact H | (rw [hy415]; exact H) | exact H
            have Ny415 := Aside0.mk hy415
            clear hy415
            have H' := Aside0.mk H
            clear H
            have p409 : 0 ≤ ((ji8) : Int) := ofd
            have q409 : (ji8) < (l0.length : Int) := ofd
            obtain ⟨ad409, e409, hx409_0⟩ := Kd.at_int HR0.out (ji8) p409 q409
            cases e409
            (try replace hx409_0 := (HB.out.cell (World.block_lt_of_cell? w _ hx409_0)).trans hx409_0)
            replace p409 := eq_true p409
            replace q409 := eq_true q409
            go_wp2_with (first | ((with_reducible refine gate_callee (f := 27) rfl ?_); refine goesA (some 29) Try.func27 #[.slice (some ad409) l0.length c0, .int .i64 x5_2] ?_; (with_reducible refine (impl_AddMark.calls k2 _ _ l0 x5_2 t410 true _ ?side1 ?side2 A12.out).mono ?_); (case side1 => repeat (first | exact (Kd.C_below HR0.out HB.out) | (with_reducible refine Kd.C_alloc ?_ _) | (with_reducible refine Kd.C_drewN ?_ _) | (with_reducible refine Kd.C_drew ?_))); (case side2 => exact HC0.out); rintro e w17 ⟨v412, rfl, ho0, hb⟩; refine ⟨_, rfl, ?_⟩; have HO413 := Aside0.mk (Kd.R_lower (Kd.R_new' ho0 (ltR HO_4)) (szB HB)); replace HO_4 := eldRR HO_4 ho0 hb; replace HB := upB HB hb; (try clear hb); (try clear hb2); (try clear hk); (try clear hi); (try clear ho0); obtain ⟨Ao18, co18, eo18⟩ := Kd.R_slice HO413.out; subst eo18) | (go_at_call 63; (with_reducible refine (impl_different.calls k2 _ _ t410 true _ ?side1 ?side2 A14.out).mono ?_); (case side1 => exact atRC HO413); (case side2 => exact (Kd.R_reads' HO413.out).2.1); rintro e w19 ⟨rfl, hb⟩; replace HO_4 := upR HO_4 hb; replace HO413 := upR HO413 hb; replace HB := upB HB hb; (try clear hb); (try clear hb2); (try clear hk); (try clear hi)) | ((with_reducible refine gate_builtin (b := .append) (xs := #[.tmp 37, .tmp 39]) rfl ?_); at_builtin; refine Kd.R_append (Kd.int .i64) (w0 := w) w.heap.size rfl (.tmp 37) (.tmp 39) 24 3 (.int .i64 0) 8 rfl Try.underlying24 info3 rfl (by decide) (by omega) u4 x4_2 x5_2 [.int .i64 x5_2] (fun k_ => some k_ ≠ (.slice Ao18 t410.length co18 : Value).ownBlock) (fun _ => False) rfl rfl ?aP (fun _ hk => hk.elim) ?aF ?aO ?aB ?aS ?aL ?_; (case aP => exact rfl); (case aB => exact (atB HB)); (case aF => exact (fun k_ hk => Kd.fresh' (ltR HO413) k_ hk)); (case aO => exact (by (with_reducible repeat (first | apply Kd.R_alloc | apply Kd.R_drewN | apply Kd.R_drew)); exact Kd.R_mono HO_4.out (fun _ hk => hk.2))); (case aS => exact (szB HB)); (case aL => have := LMc16.out; omega); intro v416 w20 ho hb hg hat; rw [← Ny415.out] at ho; have HO417 := Aside0.mk (ho); replace HO413 := Aside0.mk (Kd.R_after (ok := (fun _ => True)) (atR HO413) hg hat); replace HB := Aside0.mk (hb); clear HO_4; clear ho hb hg hat))
            first | go_roundg k2 | ((try subst hji8); go_roundg k2)
            case measure => have := HJ1.out; have := HK2.out; omega
            case rel => exact ⟨(y415), (wrap64 (x5_2 + 1)), eqd, H', ⟨by have := HJ1.out; have := HK2.out; omega⟩, ⟨by (with_reducible repeat (first | apply Kd.R_alloc | apply Kd.R_drewN | apply Kd.R_drew)); exact Kd.R_mono HO417.out (fun _ hk => trivial)⟩, ⟨atB HB⟩⟩
           ·rw [if_neg c16] at H
            exact absurd H (by simp)
          ·replace c15 := Bool.eq_false_iff.mpr c15
           subst c15
           have H1 : (impl_FreeMarks.l0 k2 l0 x4_2 (wrap64 (x5_2 + 1))) = some (r1, r2) := by rw [if_neg (show ¬ (false = true) by decide)] at H; exact H
           clear H
           have H := H1
           clear H1
           have H' := Aside0.mk H
           clear H
           have p409 : 0 ≤ ((ji8) : Int) := ofd
           have q409 : (ji8) < (l0.length : Int) := ofd
           obtain ⟨ad409, e409, hx409_0⟩ := Kd.at_int HR0.out (ji8) p409 q409
           cases e409
           (try replace hx409_0 := (HB.out.cell (World.block_lt_of_cell? w _ hx409_0)).trans hx409_0)
           replace p409 := eq_true p409
           replace q409 := eq_true q409
           go_wp2_with (first | ((with_reducible refine gate_callee (f := 27) rfl ?_); refine goesA (some 29) Try.func27 #[.slice (some ad409) l0.length c0, .int .i64 x5_2] ?_; (with_reducible refine (impl_AddMark.calls k2 _ _ l0 x5_2 t410 true _ ?side1 ?side2 A12.out).mono ?_); (case side1 => repeat (first | exact (Kd.C_below HR0.out HB.out) | (with_reducible refine Kd.C_alloc ?_ _) | (with_reducible refine Kd.C_drewN ?_ _) | (with_reducible refine Kd.C_drew ?_))); (case side2 => exact HC0.out); rintro e w21 ⟨v412, rfl, ho0, hb⟩; refine ⟨_, rfl, ?_⟩; have HO413 := Aside0.mk (Kd.R_lower (Kd.R_new' ho0 (ltR HO_4)) (szB HB)); replace HO_4 := eldRR HO_4 ho0 hb; replace HB := upB HB hb; (try clear hb); (try clear hb2); (try clear hk); (try clear hi); (try clear ho0); obtain ⟨Ao22, co22, eo22⟩ := Kd.R_slice HO413.out; subst eo22) | (go_at_call 63; (with_reducible refine (impl_different.calls k2 _ _ t410 false _ ?side1 ?side2 A14.out).mono ?_); (case side1 => exact atRC HO413); (case side2 => exact (Kd.R_reads' HO413.out).2.1); rintro e w23 ⟨rfl, hb⟩; replace HO_4 := upR HO_4 hb; replace HO413 := upR HO413 hb; replace HB := upB HB hb; (try clear hb); (try clear hb2); (try clear hk); (try clear hi)))
           first | go_roundg k2 | ((try subst hji8); go_roundg k2)
           case measure => have := HJ1.out; have := HK2.out; omega
           case rel => exact ⟨(x4_2), (wrap64 (x5_2 + 1)), eqd, H', ⟨by have := HJ1.out; have := HK2.out; omega⟩, ⟨by (with_reducible repeat (first | apply Kd.R_alloc | apply Kd.R_drewN | apply Kd.R_drew)); exact Kd.R_mono HO_4.out (fun _ hk => trivial)⟩, ⟨atB HB⟩⟩
         ·replace c13 := Bool.eq_false_iff.mpr c13
          subst c13
          have H1 : (impl_FreeMarks.l0 k2 l0 x4_2 (wrap64 (x5_2 + 1))) = some (r1, r2) := by rw [if_neg (show ¬ (false = true) by decide)] at H; exact H
          clear H
          have H := H1
          clear H1
          have H' := Aside0.mk H
          clear H
          have p409 : 0 ≤ ((ji8) : Int) := ofd
          have q409 : (ji8) < (l0.length : Int) := ofd
          obtain ⟨ad409, e409, hx409_0⟩ := Kd.at_int HR0.out (ji8) p409 q409
          cases e409
          (try replace hx409_0 := (HB.out.cell (World.block_lt_of_cell? w _ hx409_0)).trans hx409_0)
          replace p409 := eq_true p409
          replace q409 := eq_true q409
          go_wp2_with (first | ((with_reducible refine gate_callee (f := 27) rfl ?_); refine goesA (some 29) Try.func27 #[.slice (some ad409) l0.length c0, .int .i64 x5_2] ?_; (with_reducible refine (impl_AddMark.calls k2 _ _ l0 x5_2 t410 false _ ?side1 ?side2 A12.out).mono ?_); (case side1 => repeat (first | exact (Kd.C_below HR0.out HB.out) | (with_reducible refine Kd.C_alloc ?_ _) | (with_reducible refine Kd.C_drewN ?_ _) | (with_reducible refine Kd.C_drew ?_))); (case side2 => exact HC0.out); rintro e w24 ⟨v412, rfl, ho0, hb⟩; refine ⟨_, rfl, ?_⟩; have HO413 := Aside0.mk (Kd.R_lower (Kd.R_new' ho0 (ltR HO_4)) (szB HB)); replace HO_4 := eldRR HO_4 ho0 hb; replace HB := upB HB hb; (try clear hb); (try clear hb2); (try clear hk); (try clear hi); (try clear ho0)))
          first | go_roundg k2 | ((try subst hji8); go_roundg k2)
          case measure => have := HJ1.out; have := HK2.out; omega
          case rel => exact ⟨(x4_2), (wrap64 (x5_2 + 1)), eqd, H', ⟨by have := HJ1.out; have := HK2.out; omega⟩, ⟨by (with_reducible repeat (first | apply Kd.R_alloc | apply Kd.R_drewN | apply Kd.R_drew)); exact Kd.R_mono HO_4.out (fun _ hk => trivial)⟩, ⟨atB HB⟩⟩
        ·rw [if_neg c11] at H
         have c11b0 : decide (x5_2 < (rd l0 (ji8))) = false := decide_eq_false c11
         clear c11
         simp only [Option.some.injEq, Prod.mk.injEq] at H
         obtain ⟨rfl, rfl⟩ := H
         have p409 : 0 ≤ ((ji8) : Int) := ofd
         have q409 : (ji8) < (l0.length : Int) := ofd
         obtain ⟨ad409, e409, hx409_0⟩ := Kd.at_int HR0.out (ji8) p409 q409
         cases e409
         (try replace hx409_0 := (HB.out.cell (World.block_lt_of_cell? w _ hx409_0)).trans hx409_0)
         replace p409 := eq_true p409
         replace q409 := eq_true q409
         go_wp2
         go_ret2
         exact ⟨_, by first | rfl | (simp [errW_none, errW_some] <;> rfl) | (simp only [← hji8]; first | rfl | (simp [errW_none, errW_some] <;> rfl)) | (simp [*, errW_none, errW_some] <;> rfl), atR HO_4, atB HB⟩
       ·rw [if_neg c10] at H
        exact absurd H (by simp)
      ·rw [if_neg c9] at H
       exact absurd H (by simp)

noncomputable def impl_FreeMarks.J0 (x0 : List Int) (x15 : Bool) : Option (List Int × Bool) := lim fun k => impl_FreeMarks.j0 k x0 x15
theorem impl_FreeMarks.J0_lim (x0 : List Int) (x15 : Bool) : Lim (fun k => impl_FreeMarks.j0 k x0 x15) (impl_FreeMarks.J0 x0 x15) := Lim.of fun k => (impl_FreeMarks.mono_l k).1 x0 x15
noncomputable def impl_FreeMarks.L0 (x0 : List Int) (x4 : List Int) (x5 : Int) : Option (List Int × Bool) := lim fun k => impl_FreeMarks.l0 k x0 x4 x5
theorem impl_FreeMarks.L0_lim (x0 : List Int) (x4 : List Int) (x5 : Int) : Lim (fun k => impl_FreeMarks.l0 k x0 x4 x5) (impl_FreeMarks.L0 x0 x4 x5) := Lim.of fun k => (impl_FreeMarks.mono_l k).2 x0 x4 x5
noncomputable def impl_FreeMarks.F (l0 : List Int) : Option (List Int × Bool) := lim fun k => impl_FreeMarks.f k l0
theorem impl_FreeMarks.F_lim (l0 : List Int) : Lim (fun k => impl_FreeMarks.f k l0) (impl_FreeMarks.F l0) := Lim.of fun k => impl_FreeMarks.mono l0 k
theorem impl_FreeMarks.J0_eq (x0 : List Int) (x15 : Bool) : impl_FreeMarks.J0 x0 x15 = (if x15 = true then (some (([] : List Int), false)) else (impl_FreeMarks.L0 x0 ([] : List Int) 1)) :=
 Lim.step (f := fun k => impl_FreeMarks.j0 (k + 1) x0 x15) (impl_FreeMarks.J0_lim x0 x15) (fun _ => rfl) (by
  simp only [impl_FreeMarks.j0]
  repeat' (first | (with_reducible first | exact Lim.const _ | exact impl_FreeMarks.L0_lim _ _ _ | refine Lim.ite ?_ ?_ | refine Lim.bind ?_ (fun _ => ?_))))
theorem impl_FreeMarks.L0_eq (x0 : List Int) (x4 : List Int) (x5 : Int) : impl_FreeMarks.L0 x0 x4 x5 = (if 0 ≤ (wrap64 ((x0.length : Int) - 1)) then (if (wrap64 ((x0.length : Int) - 1)) < (x0.length : Int) then (if x5 < (rd x0 (wrap64 ((x0.length : Int) - 1))) then ((impl_AddMark.F x0 x5).bind fun bt410 => (if bt410.2 = true then ((impl_different.F bt410.1).bind fun t414 => (if t414 = true then (if x4.length < 17592186044416 then (impl_FreeMarks.L0 x0 (x4 ++ [x5]) (wrap64 (x5 + 1))) else (none)) else (impl_FreeMarks.L0 x0 x4 (wrap64 (x5 + 1))))) else (impl_FreeMarks.L0 x0 x4 (wrap64 (x5 + 1))))) else (some (x4, true))) else (none)) else (none)) :=
 Lim.step (f := fun k => impl_FreeMarks.l0 (k + 1) x0 x4 x5) (impl_FreeMarks.L0_lim x0 x4 x5) (fun _ => rfl) (by
  simp only [impl_FreeMarks.l0]
  repeat' (first | (with_reducible first | exact Lim.const _ | exact impl_AddMark.F_lim _ _ | exact impl_FreeMarks.L0_lim _ _ _ | exact impl_different.F_lim _ | refine Lim.ite ?_ ?_ | refine Lim.bind ?_ (fun _ => ?_))))
theorem impl_FreeMarks.F_eq (l0 : List Int) : impl_FreeMarks.F l0 = ((impl_IsRuler.F l0).bind fun t407 => (if t407 = true then ((impl_different.F l0).bind fun t408 => (impl_FreeMarks.J0 l0 (!t408))) else (impl_FreeMarks.J0 l0 true))) :=
 Lim.unique (impl_FreeMarks.F_lim l0) (by
  unfold impl_FreeMarks.f
  repeat' (first | (with_reducible first | exact Lim.const _ | exact impl_FreeMarks.J0_lim _ _ | exact impl_IsRuler.F_lim _ | exact impl_different.F_lim _ | refine Lim.ite ?_ ?_ | refine Lim.bind ?_ (fun _ => ?_))))

end Go.Proofs.Ytofjndbpndpjjaa.Fn
namespace Go.Proofs.Ytofjndbpndpjjaa.Fn
open Go.RowKit Go.Proofs.YtofjndbpndpjjaaW.PrintWords Go.Proofs.YtofjndbpndpjjaaW.PrintLast Go.Proofs.YtofjndbpndpjjaaW.PrintMore
attribute [local go_sem] max2_int min2_int max_two min_two max_three min_three max_four min_four   -- for this text's walks alone
set_option linter.unusedVariables false
set_option linter.unusedSimpArgs false

/-! ### impl_IsDifferent: function 13 -/
def impl_IsDifferent.f (k : Nat) (l0 : List Int) : Option (Bool × Bool) := (impl_IsRuler.f k l0).bind fun t244 => (if t244 = true then ((impl_different.f k l0).bind fun t245 => (some (t245, true))) else (some (false, false)))
theorem impl_IsDifferent.mono : ∀ a0 k, LeO (impl_IsDifferent.f k a0) (impl_IsDifferent.f (k + 1) a0) := by
 intro a0 k
 unfold impl_IsDifferent.f
 repeat' (first | (with_reducible first | exact impl_IsRuler.mono _ _ | exact impl_different.mono _ _ | exact LeO.refl _ | exact LeO.none _ | refine LeO.ite ?_ ?_ | refine LeO.bind ?_ (fun _ => ?_)) | exact impl_IsRuler.mono _ _ | exact impl_different.mono _ _ | exact LeO.none _ | refine LeO.ite ?_ ?_ | refine LeO.bind ?_ (fun _ => ?_))
set_option maxHeartbeats 8000000 in
set_option maxRecDepth 100000 in
theorem impl_IsDifferent.calls (k : Nat) (A0 : Option Addr) (c0 : Nat) (l0 : List Int) (r1 : Bool) (r2 : Bool) (w : World) (hr0 : Kd.C (Kd.int .i64) w A0 l0.length l0) (hc0 : l0.length ≤ c0) (h : impl_IsDifferent.f k l0 = some (r1, r2)) :
  Calls Try.prog 13 #[.slice A0 l0.length c0] w fun e w' => e = .returned (.tuple #[.bool r1, .bool r2]) ∧ Below w.heap.size w w' := by
 have HR0 := Aside0.mk hr0
 have HC0 := Aside0.mk hc0
 clear hr0 hc0
 have HB := Aside0.mk (Below.refl w.heap.size w)
 have H := h
 unfold impl_IsDifferent.f at H
 clear h
 replace H := Option.bind_eq_some_iff.mp H
 obtain ⟨t244, A20, H⟩ := H
 replace H : (if t244 = true then ((impl_different.f k l0).bind fun t245 => (some (t245, true))) else (some (false, false))) = some (r1, r2) := H
 have A2 := Aside0.mk A20
 clear A20
 by_cases c3 : t244 = true
 ·subst c3
  have H1 : ((impl_different.f k l0).bind fun t245 => (some (t245, true))) = some (r1, r2) := by rw [if_pos rfl] at H; exact H
  clear H
  have H := H1
  clear H1
  replace H := Option.bind_eq_some_iff.mp H
  obtain ⟨t245, A40, H⟩ := H
  replace H : (some (t245, true)) = some (r1, r2) := H
  have A4 := Aside0.mk A40
  clear A40
  simp only [Option.some.injEq, Prod.mk.injEq] at H
  obtain ⟨rfl, rfl⟩ := H
  go_enter Try.func13, Try.ntmps13
  go_wp2_with (first | ((with_reducible refine gate_callee (f := 22) rfl ?_); refine goesA (some 5) Try.func22 #[.slice A0 l0.length c0] ?_; (with_reducible refine (impl_IsRuler.calls k _ _ l0 true _ ?side1 ?side2 A2.out).mono ?_); (case side1 => repeat (first | exact HR0.out | (with_reducible refine Kd.C_alloc ?_ _) | (with_reducible refine Kd.C_drewN ?_ _) | (with_reducible refine Kd.C_drew ?_))); (case side2 => exact HC0.out); rintro e w' ⟨rfl, ⟨nd, rfl⟩⟩; refine ⟨_, rfl, ?_⟩) | ((with_reducible refine gate_callee (f := 63) rfl ?_); refine goesA (some 8) Try.func63 #[.slice A0 l0.length c0] ?_; (with_reducible refine (impl_different.calls k _ _ l0 t245 _ ?side1 ?side2 A4.out).mono ?_); (case side1 => repeat (first | exact HR0.out | (with_reducible refine Kd.C_alloc ?_ _) | (with_reducible refine Kd.C_drewN ?_ _) | (with_reducible refine Kd.C_drew ?_))); (case side2 => exact HC0.out); rintro e w5 ⟨rfl, hb⟩; refine ⟨_, rfl, ?_⟩; replace HB := upB HB hb; (try clear hb); (try clear hb2); (try clear hk); (try clear hi)))
  go_ret2
  exact ⟨eqr, atB HB⟩
 ·replace c3 := Bool.eq_false_iff.mpr c3
  subst c3
  have H1 : (some (false, false)) = some (r1, r2) := by rw [if_neg (show ¬ (false = true) by decide)] at H; exact H
  clear H
  have H := H1
  clear H1
  simp only [Option.some.injEq, Prod.mk.injEq] at H
  obtain ⟨rfl, rfl⟩ := H
  go_enter Try.func13, Try.ntmps13
  go_wp2_with (first | ((with_reducible refine gate_callee (f := 22) rfl ?_); refine goesA (some 5) Try.func22 #[.slice A0 l0.length c0] ?_; (with_reducible refine (impl_IsRuler.calls k _ _ l0 false _ ?side1 ?side2 A2.out).mono ?_); (case side1 => repeat (first | exact HR0.out | (with_reducible refine Kd.C_alloc ?_ _) | (with_reducible refine Kd.C_drewN ?_ _) | (with_reducible refine Kd.C_drew ?_))); (case side2 => exact HC0.out); rintro e w' ⟨rfl, ⟨nd, rfl⟩⟩; refine ⟨_, rfl, ?_⟩))
  go_ret2
  exact ⟨eqr, atB HB⟩

noncomputable def impl_IsDifferent.F (l0 : List Int) : Option (Bool × Bool) := lim fun k => impl_IsDifferent.f k l0
theorem impl_IsDifferent.F_lim (l0 : List Int) : Lim (fun k => impl_IsDifferent.f k l0) (impl_IsDifferent.F l0) := Lim.of fun k => impl_IsDifferent.mono l0 k
theorem impl_IsDifferent.F_eq (l0 : List Int) : impl_IsDifferent.F l0 = ((impl_IsRuler.F l0).bind fun t244 => (if t244 = true then ((impl_different.F l0).bind fun t245 => (some (t245, true))) else (some (false, false)))) :=
 Lim.unique (impl_IsDifferent.F_lim l0) (by
  unfold impl_IsDifferent.f
  repeat' (first | (with_reducible first | exact Lim.const _ | exact impl_IsRuler.F_lim _ | exact impl_different.F_lim _ | refine Lim.ite ?_ ?_ | refine Lim.bind ?_ (fun _ => ?_))))

end Go.Proofs.Ytofjndbpndpjjaa.Fn
namespace Go.Proofs.Ytofjndbpndpjjaa.Fn
open Go.RowKit Go.Proofs.YtofjndbpndpjjaaW.PrintWords Go.Proofs.YtofjndbpndpjjaaW.PrintLast Go.Proofs.YtofjndbpndpjjaaW.PrintMore
attribute [local go_sem] max2_int min2_int max_two min_two max_three min_three max_four min_four   -- for this text's walks alone
set_option linter.unusedVariables false
set_option linter.unusedSimpArgs false

/-! ### impl_whole: function 65 -/
def impl_whole.f (k : Nat) (l0 : List Int) : Option (Bool) := (impl_measured.f k l0).bind fun t250 => (if 1 ≤ (t250.length : Int) then ((slices_Contains_int_int.f k (t250.drop 1) 0).bind fun t257 => (some (!t257))) else (none))
theorem impl_whole.mono : ∀ a0 k, LeO (impl_whole.f k a0) (impl_whole.f (k + 1) a0) := by
 intro a0 k
 unfold impl_whole.f
 repeat' (first | (with_reducible first | exact impl_measured.mono _ _ | exact slices_Contains_int_int.mono _ _ _ | exact LeO.refl _ | exact LeO.none _ | refine LeO.ite ?_ ?_ | refine LeO.bind ?_ (fun _ => ?_)) | exact impl_measured.mono _ _ | exact slices_Contains_int_int.mono _ _ _ | exact LeO.none _ | refine LeO.ite ?_ ?_ | refine LeO.bind ?_ (fun _ => ?_))
set_option maxHeartbeats 8000000 in
set_option maxRecDepth 100000 in
theorem impl_whole.calls (k : Nat) (A0 : Option Addr) (c0 : Nat) (l0 : List Int) (r : Bool) (w : World) (hr0 : Kd.C (Kd.int .i64) w A0 l0.length l0) (hc0 : l0.length ≤ c0) (h : impl_whole.f k l0 = some r) :
  Calls Try.prog 65 #[.slice A0 l0.length c0] w fun e w' => e = .returned (.bool r) ∧ Below w.heap.size w w' := by
 have HR0 := Aside0.mk hr0
 have HC0 := Aside0.mk hc0
 clear hr0 hc0
 have HB := Aside0.mk (Below.refl w.heap.size w)
 have H := h
 unfold impl_whole.f at H
 clear h
 replace H := Option.bind_eq_some_iff.mp H
 obtain ⟨t250, A20, H⟩ := H
 replace H : (if 1 ≤ (t250.length : Int) then ((slices_Contains_int_int.f k (t250.drop 1) 0).bind fun t257 => (some (!t257))) else (none)) = some r := H
 have A2 := Aside0.mk A20
 clear A20
 by_cases c3 : 1 ≤ (t250.length : Int)
 ·rw [if_pos c3] at H
  have c3b0 := eq_true c3
  have c3b1 : decide (1 ≤ (t250.length : Int)) = true := decide_eq_true c3
  clear c3
  obtain ⟨y253, hy253⟩ : ∃ y_ : List Int, y_ = (t250.drop 1) := ⟨_, rfl⟩
  replace H : ((slices_Contains_int_int.f k y253 0).bind fun t257 => (some (!t257))) = some r := by first | (rw [hy253]; with_reducible exact H) | (have H2_ := (Option.bind_some _ _).symm.trans H; rw [hy253]; with_reducible exact H2_) | (have H2_ := (Option.bind_some _ _).symm.trans H; with_reducible exact H2_) | with_reducible exact H | (rw [hy253]; exact H) | exact H
  have Ny253 := Aside0.mk hy253
  clear hy253
  replace H := Option.bind_eq_some_iff.mp H
  obtain ⟨t257, A40, H⟩ := H
  replace H : (some (!t257)) = some r := H
  have A4 := Aside0.mk A40
  clear A40
  obtain rfl := Option.some.inj H
  go_enter Try.func65, Try.ntmps65
  go_wp2_with (first | ((with_reducible refine gate_callee (f := 59) rfl ?_); refine goesA (some 4) Try.func59 #[.slice A0 l0.length c0] ?_; (with_reducible refine (impl_measured.calls k _ _ l0 t250 _ ?side1 ?side2 A2.out).mono ?_); (case side1 => repeat (first | exact HR0.out | (with_reducible refine Kd.C_alloc ?_ _) | (with_reducible refine Kd.C_drewN ?_ _) | (with_reducible refine Kd.C_drew ?_))); (case side2 => exact HC0.out); rintro e w5 ⟨v251, rfl, ho0, hb⟩; refine ⟨_, rfl, ?_⟩; have HO252 := lowR ho0 HB; replace HB := upB HB hb; (try clear hb); (try clear hb2); (try clear hk); (try clear hi); (try clear ho0); obtain ⟨Ao7, co7, eo7⟩ := Kd.R_slice HO252.out; subst eo7; have q6 : (1 : Int) ≤ ((t250.length : Int) : Int) := ofd; obtain ⟨i06, hi06, _, hsz6, _⟩ := info_parts info3; have hroom6 : t250.length ≤ co7 := (Kd.R_reads' HO252.out).2.1; have hC6 : Kd.C (Kd.int .i64) _ Ao7 t250.length t250 := (Kd.R_reads' HO252.out).2.2; have hcut6 := cut_from (P := Try.prog) 24 3 .i64 Try.underlying24 hi06 1 hsz6 Ao7 t250.length co7 1 (by omega) q6; have hr6 := Kd.C_drop (m := (1 : Int).toNat) (c := co7) hC6 (by omega) hroom6; obtain ⟨A6, hA6⟩ : ∃ A1, A1 = (if co7 = (1 : Int).toNat then Ao7 else (Ao7 : Option Addr).map (·.add ((1 : Int).toNat * 1))) := ⟨_, rfl⟩; obtain ⟨c6, hc6⟩ : ∃ c1, c1 = co7 - (1 : Int).toNat := ⟨_, rfl⟩; have hy6 : y253.length = t250.length - (1 : Int).toNat := (by rw [Ny253.out, List.length_drop] <;> omega); rw [show (t250).drop (1 : Int).toNat = y253 from Ny253.out.symm] at hr6; replace hr6 : Kd.C (Kd.int .i64) _ A6 y253.length y253 := (by rw [hA6]; exact hr6); rw [← hy6, ← hA6, ← hc6] at hcut6; have HR256 := Aside0.mk hr6; have HC256 := Aside0.mk (show y253.length ≤ c6 from by rw [hy6, hc6]; exact Nat.sub_le_sub_right hroom6 _); clear hr6 hC6 hroom6 hi06 hsz6 hc6; have KY6 := Aside0.mk hy6; have KA6 := Aside0.mk hA6; clear hy6 hA6; have KL6 := Aside0.mk (show 1 ≤ t250.length from by omega); replace q6 := eq_true q6) | ((with_reducible refine gate_callee (f := 69) rfl ?_); refine goesA (some 6) Try.func69 #[.slice A6 y253.length c6, .int .i64 0] ?_; (with_reducible refine (slices_Contains_int_int.calls k _ _ y253 0 t257 _ ?side1 ?side2 A4.out).mono ?_); (case side1 => exact atC HR256); (case side2 => exact HC256.out); rintro e w' ⟨rfl, ⟨nd, rfl⟩⟩; refine ⟨_, rfl, ?_⟩))
  go_ret
  exact ⟨eqr, atB HB⟩
 ·rw [if_neg c3] at H
  exact absurd H (by simp)

noncomputable def impl_whole.F (l0 : List Int) : Option (Bool) := lim fun k => impl_whole.f k l0
theorem impl_whole.F_lim (l0 : List Int) : Lim (fun k => impl_whole.f k l0) (impl_whole.F l0) := Lim.of fun k => impl_whole.mono l0 k
theorem impl_whole.F_eq (l0 : List Int) : impl_whole.F l0 = ((impl_measured.F l0).bind fun t250 => (if 1 ≤ (t250.length : Int) then ((slices_Contains_int_int.F (t250.drop 1) 0).bind fun t257 => (some (!t257))) else (none))) :=
 Lim.unique (impl_whole.F_lim l0) (by
  unfold impl_whole.f
  repeat' (first | (with_reducible first | exact Lim.const _ | exact impl_measured.F_lim _ | exact slices_Contains_int_int.F_lim _ _ | refine Lim.ite ?_ ?_ | refine Lim.bind ?_ (fun _ => ?_))))

end Go.Proofs.Ytofjndbpndpjjaa.Fn
namespace Go.Proofs.Ytofjndbpndpjjaa.Fn
open Go.RowKit Go.Proofs.YtofjndbpndpjjaaW.PrintWords Go.Proofs.YtofjndbpndpjjaaW.PrintLast Go.Proofs.YtofjndbpndpjjaaW.PrintMore
attribute [local go_sem] max2_int min2_int max_two min_two max_three min_three max_four min_four   -- for this text's walks alone
set_option linter.unusedVariables false
set_option linter.unusedSimpArgs false

/-! ### impl_IsWhole: function 15 -/
def impl_IsWhole.f (k : Nat) (l0 : List Int) : Option (Bool × Bool) := (impl_IsRuler.f k l0).bind fun t258 => (if t258 = true then ((impl_whole.f k l0).bind fun t259 => (some (t259, true))) else (some (false, false)))
theorem impl_IsWhole.mono : ∀ a0 k, LeO (impl_IsWhole.f k a0) (impl_IsWhole.f (k + 1) a0) := by
 intro a0 k
 unfold impl_IsWhole.f
 repeat' (first | (with_reducible first | exact impl_IsRuler.mono _ _ | exact impl_whole.mono _ _ | exact LeO.refl _ | exact LeO.none _ | refine LeO.ite ?_ ?_ | refine LeO.bind ?_ (fun _ => ?_)) | exact impl_IsRuler.mono _ _ | exact impl_whole.mono _ _ | exact LeO.none _ | refine LeO.ite ?_ ?_ | refine LeO.bind ?_ (fun _ => ?_))
set_option maxHeartbeats 8000000 in
set_option maxRecDepth 100000 in
theorem impl_IsWhole.calls (k : Nat) (A0 : Option Addr) (c0 : Nat) (l0 : List Int) (r1 : Bool) (r2 : Bool) (w : World) (hr0 : Kd.C (Kd.int .i64) w A0 l0.length l0) (hc0 : l0.length ≤ c0) (h : impl_IsWhole.f k l0 = some (r1, r2)) :
  Calls Try.prog 15 #[.slice A0 l0.length c0] w fun e w' => e = .returned (.tuple #[.bool r1, .bool r2]) ∧ Below w.heap.size w w' := by
 have HR0 := Aside0.mk hr0
 have HC0 := Aside0.mk hc0
 clear hr0 hc0
 have HB := Aside0.mk (Below.refl w.heap.size w)
 have H := h
 unfold impl_IsWhole.f at H
 clear h
 replace H := Option.bind_eq_some_iff.mp H
 obtain ⟨t258, A20, H⟩ := H
 replace H : (if t258 = true then ((impl_whole.f k l0).bind fun t259 => (some (t259, true))) else (some (false, false))) = some (r1, r2) := H
 have A2 := Aside0.mk A20
 clear A20
 by_cases c3 : t258 = true
 ·subst c3
  have H1 : ((impl_whole.f k l0).bind fun t259 => (some (t259, true))) = some (r1, r2) := by rw [if_pos rfl] at H; exact H
  clear H
  have H := H1
  clear H1
  replace H := Option.bind_eq_some_iff.mp H
  obtain ⟨t259, A40, H⟩ := H
  replace H : (some (t259, true)) = some (r1, r2) := H
  have A4 := Aside0.mk A40
  clear A40
  simp only [Option.some.injEq, Prod.mk.injEq] at H
  obtain ⟨rfl, rfl⟩ := H
  go_enter Try.func15, Try.ntmps15
  go_wp2_with (first | ((with_reducible refine gate_callee (f := 22) rfl ?_); refine goesA (some 5) Try.func22 #[.slice A0 l0.length c0] ?_; (with_reducible refine (impl_IsRuler.calls k _ _ l0 true _ ?side1 ?side2 A2.out).mono ?_); (case side1 => repeat (first | exact HR0.out | (with_reducible refine Kd.C_alloc ?_ _) | (with_reducible refine Kd.C_drewN ?_ _) | (with_reducible refine Kd.C_drew ?_))); (case side2 => exact HC0.out); rintro e w' ⟨rfl, ⟨nd, rfl⟩⟩; refine ⟨_, rfl, ?_⟩) | ((with_reducible refine gate_callee (f := 65) rfl ?_); refine goesA (some 8) Try.func65 #[.slice A0 l0.length c0] ?_; (with_reducible refine (impl_whole.calls k _ _ l0 t259 _ ?side1 ?side2 A4.out).mono ?_); (case side1 => repeat (first | exact HR0.out | (with_reducible refine Kd.C_alloc ?_ _) | (with_reducible refine Kd.C_drewN ?_ _) | (with_reducible refine Kd.C_drew ?_))); (case side2 => exact HC0.out); rintro e w5 ⟨rfl, hb⟩; refine ⟨_, rfl, ?_⟩; replace HB := upB HB hb; (try clear hb); (try clear hb2); (try clear hk); (try clear hi)))
  go_ret2
  exact ⟨eqr, atB HB⟩
 ·replace c3 := Bool.eq_false_iff.mpr c3
  subst c3
  have H1 : (some (false, false)) = some (r1, r2) := by rw [if_neg (show ¬ (false = true) by decide)] at H; exact H
  clear H
  have H := H1
  clear H1
  simp only [Option.some.injEq, Prod.mk.injEq] at H
  obtain ⟨rfl, rfl⟩ := H
  go_enter Try.func15, Try.ntmps15
  go_wp2_with (first | ((with_reducible refine gate_callee (f := 22) rfl ?_); refine goesA (some 5) Try.func22 #[.slice A0 l0.length c0] ?_; (with_reducible refine (impl_IsRuler.calls k _ _ l0 false _ ?side1 ?side2 A2.out).mono ?_); (case side1 => repeat (first | exact HR0.out | (with_reducible refine Kd.C_alloc ?_ _) | (with_reducible refine Kd.C_drewN ?_ _) | (with_reducible refine Kd.C_drew ?_))); (case side2 => exact HC0.out); rintro e w' ⟨rfl, ⟨nd, rfl⟩⟩; refine ⟨_, rfl, ?_⟩))
  go_ret2
  exact ⟨eqr, atB HB⟩

noncomputable def impl_IsWhole.F (l0 : List Int) : Option (Bool × Bool) := lim fun k => impl_IsWhole.f k l0
theorem impl_IsWhole.F_lim (l0 : List Int) : Lim (fun k => impl_IsWhole.f k l0) (impl_IsWhole.F l0) := Lim.of fun k => impl_IsWhole.mono l0 k
theorem impl_IsWhole.F_eq (l0 : List Int) : impl_IsWhole.F l0 = ((impl_IsRuler.F l0).bind fun t258 => (if t258 = true then ((impl_whole.F l0).bind fun t259 => (some (t259, true))) else (some (false, false)))) :=
 Lim.unique (impl_IsWhole.F_lim l0) (by
  unfold impl_IsWhole.f
  repeat' (first | (with_reducible first | exact Lim.const _ | exact impl_IsRuler.F_lim _ | exact impl_whole.F_lim _ | refine Lim.ite ?_ ?_ | refine Lim.bind ?_ (fun _ => ?_))))

end Go.Proofs.Ytofjndbpndpjjaa.Fn
namespace Go.Proofs.Ytofjndbpndpjjaa.Fn
open Go.RowKit Go.Proofs.YtofjndbpndpjjaaW.PrintWords Go.Proofs.YtofjndbpndpjjaaW.PrintLast Go.Proofs.YtofjndbpndpjjaaW.PrintMore
attribute [local go_sem] max2_int min2_int max_two min_two max_three min_three max_four min_four   -- for this text's walks alone
set_option linter.unusedVariables false
set_option linter.unusedSimpArgs false

/-! ### impl_LengthOfRuler: function 9 -/
def impl_LengthOfRuler.f (k : Nat) (l0 : List Int) : Option (Int × Bool) := (impl_IsRuler.f k l0).bind fun t218 => (if t218 = true then (if 0 ≤ (wrap64 ((l0.length : Int) - 1)) then (if (wrap64 ((l0.length : Int) - 1)) < (l0.length : Int) then (some (rd l0 (wrap64 ((l0.length : Int) - 1)), true)) else (none)) else (none)) else (some (0, false)))
theorem impl_LengthOfRuler.mono : ∀ a0 k, LeO (impl_LengthOfRuler.f k a0) (impl_LengthOfRuler.f (k + 1) a0) := by
 intro a0 k
 unfold impl_LengthOfRuler.f
 repeat' (first | (with_reducible first | exact impl_IsRuler.mono _ _ | exact LeO.refl _ | exact LeO.none _ | refine LeO.ite ?_ ?_ | refine LeO.bind ?_ (fun _ => ?_)) | exact impl_IsRuler.mono _ _ | exact LeO.none _ | refine LeO.ite ?_ ?_ | refine LeO.bind ?_ (fun _ => ?_))
set_option maxHeartbeats 8000000 in
set_option maxRecDepth 100000 in
theorem impl_LengthOfRuler.calls (k : Nat) (A0 : Option Addr) (c0 : Nat) (l0 : List Int) (r1 : Int) (r2 : Bool) (w : World) (hr0 : Kd.C (Kd.int .i64) w A0 l0.length l0) (hc0 : l0.length ≤ c0) (h : impl_LengthOfRuler.f k l0 = some (r1, r2)) :
  Calls Try.prog 9 #[.slice A0 l0.length c0] w fun e w' => e = .returned (.tuple #[.int .i64 r1, .bool r2]) ∧ Drawn0 w w' := by
 have HR0 := Aside0.mk hr0
 have HC0 := Aside0.mk hc0
 clear hr0 hc0
 have H := h
 unfold impl_LengthOfRuler.f at H
 clear h
 replace H := Option.bind_eq_some_iff.mp H
 obtain ⟨t218, A20, H⟩ := H
 replace H : (if t218 = true then (if 0 ≤ (wrap64 ((l0.length : Int) - 1)) then (if (wrap64 ((l0.length : Int) - 1)) < (l0.length : Int) then (some (rd l0 (wrap64 ((l0.length : Int) - 1)), true)) else (none)) else (none)) else (some (0, false))) = some (r1, r2) := H
 have A2 := Aside0.mk A20
 clear A20
 by_cases c3 : t218 = true
 ·subst c3
  have H1 : (if 0 ≤ (wrap64 ((l0.length : Int) - 1)) then (if (wrap64 ((l0.length : Int) - 1)) < (l0.length : Int) then (some (rd l0 (wrap64 ((l0.length : Int) - 1)), true)) else (none)) else (none)) = some (r1, r2) := by rw [if_pos rfl] at H; exact H
  clear H
  have H := H1
  clear H1
  obtain ⟨ji4, hji4⟩ : ∃ j_ : Int, (wrap64 ((l0.length : Int) - 1)) = j_ := ⟨_, rfl⟩
  replace H : (if 0 ≤ (ji4) then (if (ji4) < (l0.length : Int) then (some (rd l0 (ji4), true)) else (none)) else (none)) = some (r1, r2) := by first | (rw [hji4] at H; exact H) | (simp only [hji4] at H ⊢; exact H)
  (try rw [hji4] at A2)
  have hji4w : (IntKind.i64.wrap ((l0.length : Int) - 1)) = ji4 := (i64_w _).trans hji4
  by_cases c5 : 0 ≤ (ji4)
  ·rw [if_pos c5] at H
   have c5b0 : decide (0 ≤ (ji4)) = true := decide_eq_true c5
   clear c5
   by_cases c6 : (ji4) < (l0.length : Int)
   ·rw [if_pos c6] at H
    have c6b0 : decide ((ji4) < (l0.length : Int)) = true := decide_eq_true c6
    clear c6
    simp only [Option.some.injEq, Prod.mk.injEq] at H
    obtain ⟨rfl, rfl⟩ := H
    go_enter Try.func9, Try.ntmps9
    go_wp2_with (first | ((with_reducible refine gate_callee (f := 22) rfl ?_); refine goesA (some 5) Try.func22 #[.slice A0 l0.length c0] ?_; (with_reducible refine (impl_IsRuler.calls k _ _ l0 true _ ?side1 ?side2 A2.out).mono ?_); (case side1 => repeat (first | exact HR0.out | (with_reducible refine Kd.C_alloc ?_ _) | (with_reducible refine Kd.C_drewN ?_ _) | (with_reducible refine Kd.C_drew ?_))); (case side2 => exact HC0.out); rintro e w' ⟨rfl, ⟨nd, rfl⟩⟩; refine ⟨_, rfl, ?_⟩; have p219 : 0 ≤ ((ji4) : Int) := ofd; have q219 : (ji4) < (l0.length : Int) := ofd; obtain ⟨ad219, e219, hx219_0⟩ := Kd.at_int HR0.out (ji4) p219 q219; cases e219; replace p219 := eq_true p219; replace q219 := eq_true q219))
    go_ret2
    exact ⟨by first | rfl | (simp; done) | (simp only [← hji4] <;> (first | rfl | simp)) | (simp [*]; done), by repeat (first | exact Drawn0.refl _ | apply Drawn0.step)⟩
   ·rw [if_neg c6] at H
    exact absurd H (by simp)
  ·rw [if_neg c5] at H
   exact absurd H (by simp)
 ·replace c3 := Bool.eq_false_iff.mpr c3
  subst c3
  have H1 : (some (0, false)) = some (r1, r2) := by rw [if_neg (show ¬ (false = true) by decide)] at H; exact H
  clear H
  have H := H1
  clear H1
  simp only [Option.some.injEq, Prod.mk.injEq] at H
  obtain ⟨rfl, rfl⟩ := H
  go_enter Try.func9, Try.ntmps9
  go_wp2_with (first | ((with_reducible refine gate_callee (f := 22) rfl ?_); refine goesA (some 5) Try.func22 #[.slice A0 l0.length c0] ?_; (with_reducible refine (impl_IsRuler.calls k _ _ l0 false _ ?side1 ?side2 A2.out).mono ?_); (case side1 => repeat (first | exact HR0.out | (with_reducible refine Kd.C_alloc ?_ _) | (with_reducible refine Kd.C_drewN ?_ _) | (with_reducible refine Kd.C_drew ?_))); (case side2 => exact HC0.out); rintro e w' ⟨rfl, ⟨nd, rfl⟩⟩; refine ⟨_, rfl, ?_⟩))
  go_ret2
  exact ⟨by first | rfl | (simp; done) | (simp [*]; done), by repeat (first | exact Drawn0.refl _ | apply Drawn0.step)⟩

noncomputable def impl_LengthOfRuler.F (l0 : List Int) : Option (Int × Bool) := lim fun k => impl_LengthOfRuler.f k l0
theorem impl_LengthOfRuler.F_lim (l0 : List Int) : Lim (fun k => impl_LengthOfRuler.f k l0) (impl_LengthOfRuler.F l0) := Lim.of fun k => impl_LengthOfRuler.mono l0 k
theorem impl_LengthOfRuler.F_eq (l0 : List Int) : impl_LengthOfRuler.F l0 = ((impl_IsRuler.F l0).bind fun t218 => (if t218 = true then (if 0 ≤ (wrap64 ((l0.length : Int) - 1)) then (if (wrap64 ((l0.length : Int) - 1)) < (l0.length : Int) then (some (rd l0 (wrap64 ((l0.length : Int) - 1)), true)) else (none)) else (none)) else (some (0, false)))) :=
 Lim.unique (impl_LengthOfRuler.F_lim l0) (by
  unfold impl_LengthOfRuler.f
  repeat' (first | (with_reducible first | exact Lim.const _ | exact impl_IsRuler.F_lim _ | refine Lim.ite ?_ ?_ | refine Lim.bind ?_ (fun _ => ?_))))

end Go.Proofs.Ytofjndbpndpjjaa.Fn
namespace Go.Proofs.Ytofjndbpndpjjaa.Fn
open Go.RowKit Go.Proofs.YtofjndbpndpjjaaW.PrintWords Go.Proofs.YtofjndbpndpjjaaW.PrintLast Go.Proofs.YtofjndbpndpjjaaW.PrintMore
attribute [local go_sem] max2_int min2_int max_two min_two max_three min_three max_four min_four   -- for this text's walks alone
set_option linter.unusedVariables false
set_option linter.unusedSimpArgs false

/-! ### impl_isDistance: function 68 -/
def impl_isDistance.f (a0 : Int) : Option (Bool) := if a0 ≥ 1 then (some (decide (a0 ≤ 60))) else (some false)
set_option maxHeartbeats 8000000 in
set_option maxRecDepth 100000 in
theorem impl_isDistance.calls (a0 : Int) (r : Bool) (w : World) (h : impl_isDistance.f a0 = some r) :
  Calls Try.prog 68 #[.int .i64 a0] w fun e w' => e = .returned (.bool r) ∧ Drawn0 w w' := by
 have H := h
 unfold impl_isDistance.f at H
 clear h
 by_cases c2 : a0 ≥ 1
 ·rw [if_pos c2] at H
  have c2b0 : decide (1 ≤ a0) = true := decide_eq_true c2
  clear c2
  obtain rfl := Option.some.inj H
  go_enter Try.func68, Try.ntmps68
  go_wp2
  go_ret
  exact ⟨by first | rfl | (simp; done) | (simp [*]; done), by repeat (first | exact Drawn0.refl _ | apply Drawn0.step)⟩
 ·rw [if_neg c2] at H
  have c2b0 : decide (1 ≤ a0) = false := decide_eq_false c2
  clear c2
  obtain rfl := Option.some.inj H
  go_enter Try.func68, Try.ntmps68
  go_wp2
  go_ret
  exact ⟨by first | rfl | (simp; done) | (simp [*]; done), by repeat (first | exact Drawn0.refl _ | apply Drawn0.step)⟩


end Go.Proofs.Ytofjndbpndpjjaa.Fn
namespace Go.Proofs.Ytofjndbpndpjjaa.Fn
open Go.RowKit Go.Proofs.YtofjndbpndpjjaaW.PrintWords Go.Proofs.YtofjndbpndpjjaaW.PrintLast Go.Proofs.YtofjndbpndpjjaaW.PrintMore
attribute [local go_sem] max2_int min2_int max_two min_two max_three min_three max_four min_four   -- for this text's walks alone
set_option linter.unusedVariables false
set_option linter.unusedSimpArgs false

/-! ### impl_MeasureWith: function 25 -/
mutual
def impl_MeasureWith.j0 : Nat → List Int → Int → Bool → Option (Int × Int × Bool)
 | 0, _, _, _ => none
 | k + 1, x0, x1, x16 => if x16 = true then (some (0, 0, false)) else (impl_MeasureWith.l0 k x0 x1 x0 (x0.length : Int) 0)
def impl_MeasureWith.l0 : Nat → List Int → Int → List Int → Int → Int → Option (Int × Int × Bool)
 | 0, _, _, _, _, _ => none
 | k + 1, x0, x1, x17, x18, x19 => if x19 < x18 then (if 0 ≤ x19 then (if x19 < (x17.length : Int) then ((slices_Contains_int_int.f k x0 (wrap64 ((rd x17 x19) + x1))).bind fun t466 => (if t466 = true then (some (rd x17 x19, wrap64 ((rd x17 x19) + x1), true)) else (impl_MeasureWith.l0 k x0 x1 x17 x18 (wrap64 (x19 + 1))))) else (none)) else (none)) else (some (0, 0, false))
end
def impl_MeasureWith.f (k : Nat) (l0 : List Int) (a1 : Int) : Option (Int × Int × Bool) := (impl_IsRuler.f k l0).bind fun t463 => (if t463 = true then ((impl_isDistance.f a1).bind fun t464 => (impl_MeasureWith.j0 k l0 a1 (!t464))) else (impl_MeasureWith.j0 k l0 a1 true))
theorem impl_MeasureWith.mono_l : ∀ k, (∀ y0 y1 y2, LeO (impl_MeasureWith.j0 k y0 y1 y2) (impl_MeasureWith.j0 (k + 1) y0 y1 y2)) ∧ (∀ y0 y1 y2 y3 y4, LeO (impl_MeasureWith.l0 k y0 y1 y2 y3 y4) (impl_MeasureWith.l0 (k + 1) y0 y1 y2 y3 y4))
 | 0 => ⟨fun _ _ _ r h => by simp [impl_MeasureWith.j0] at h, fun _ _ _ _ _ r h => by simp [impl_MeasureWith.l0] at h⟩
 | k + 1 => by
  obtain ⟨ih0, ih1⟩ := impl_MeasureWith.mono_l k
  refine ⟨?_, ?_⟩
  ·intro y0 y1 y2
   unfold impl_MeasureWith.j0
   repeat' (first | (with_reducible first | exact ih1 _ _ _ _ _ | exact LeO.refl _ | exact LeO.none _ | refine LeO.ite ?_ ?_ | refine LeO.bind ?_ (fun _ => ?_)) | exact ih1 _ _ _ _ _ | exact LeO.none _ | refine LeO.ite ?_ ?_ | refine LeO.bind ?_ (fun _ => ?_))
  ·intro y0 y1 y2 y3 y4
   unfold impl_MeasureWith.l0
   repeat' (first | (with_reducible first | exact ih1 _ _ _ _ _ | exact slices_Contains_int_int.mono _ _ _ | exact LeO.refl _ | exact LeO.none _ | refine LeO.ite ?_ ?_ | refine LeO.bind ?_ (fun _ => ?_)) | exact ih1 _ _ _ _ _ | exact slices_Contains_int_int.mono _ _ _ | exact LeO.none _ | refine LeO.ite ?_ ?_ | refine LeO.bind ?_ (fun _ => ?_))
theorem impl_MeasureWith.mono : ∀ a0 a1 k, LeO (impl_MeasureWith.f k a0 a1) (impl_MeasureWith.f (k + 1) a0 a1) := by
 intro a0 a1 k
 obtain ⟨ih0, ih1⟩ := impl_MeasureWith.mono_l k
 unfold impl_MeasureWith.f
 repeat' (first | (with_reducible first | exact ih0 _ _ _ | exact impl_IsRuler.mono _ _ | exact LeO.refl _ | exact LeO.none _ | refine LeO.ite ?_ ?_ | refine LeO.bind ?_ (fun _ => ?_)) | exact ih0 _ _ _ | exact impl_IsRuler.mono _ _ | exact LeO.none _ | refine LeO.ite ?_ ?_ | refine LeO.bind ?_ (fun _ => ?_))
set_option maxHeartbeats 8000000 in
set_option maxRecDepth 100000 in
theorem impl_MeasureWith.calls (k : Nat) (A0 : Option Addr) (c0 : Nat) (l0 : List Int) (a1 : Int) (r1 : Int) (r2 : Int) (r3 : Bool) (w : World) (hr0 : Kd.C (Kd.int .i64) w A0 l0.length l0) (hc0 : l0.length ≤ c0) (h : impl_MeasureWith.f k l0 a1 = some (r1, r2, r3)) :
  Calls Try.prog 25 #[.slice A0 l0.length c0, .int .i64 a1] w fun e w' => e = .returned (.tuple #[.int .i64 r1, .int .i64 r2, .bool r3]) ∧ Drawn0 w w' := by
 have HR0 := Aside0.mk hr0
 have HC0 := Aside0.mk hc0
 clear hr0 hc0
 have H := h
 unfold impl_MeasureWith.f at H
 clear h
 have HC3 := Aside0.mk H
 clear H
 go_enter Try.func25, Try.ntmps25
 go_upto_region 1 with (fail)
 go_cut [16] (fun v16 wc => ∃ (kq : Nat) (x16_2 : Bool), v16 = .bool x16_2 ∧ Aside0 (impl_MeasureWith.j0 kq l0 a1 x16_2 = some (r1, r2, r3)) ∧ Aside0 (kq ≤ k) ∧ Drawn0 w wc)
 case first =>
  have H := HC3.out
  clear HC3
  replace H := Option.bind_eq_some_iff.mp H
  obtain ⟨t463, A40, H⟩ := H
  replace H : (if t463 = true then ((impl_isDistance.f a1).bind fun t464 => (impl_MeasureWith.j0 k l0 a1 (!t464))) else (impl_MeasureWith.j0 k l0 a1 true)) = some (r1, r2, r3) := H
  have A4 := Aside0.mk A40
  clear A40
  by_cases c5 : t463 = true
  ·subst c5
   have H1 : ((impl_isDistance.f a1).bind fun t464 => (impl_MeasureWith.j0 k l0 a1 (!t464))) = some (r1, r2, r3) := by rw [if_pos rfl] at H; exact H
   clear H
   have H := H1
   clear H1
   replace H := Option.bind_eq_some_iff.mp H
   obtain ⟨t464, A60, H⟩ := H
   replace H : (impl_MeasureWith.j0 k l0 a1 (!t464)) = some (r1, r2, r3) := H
   have A6 := Aside0.mk A60
   clear A60
   have H' := Aside0.mk H
   clear H
   go_wp2_with (first | ((with_reducible refine gate_callee (f := 22) rfl ?_); refine goesA (some 10) Try.func22 #[.slice A0 l0.length c0] ?_; (with_reducible refine (impl_IsRuler.calls k _ _ l0 true _ ?side1 ?side2 A4.out).mono ?_); (case side1 => repeat (first | exact HR0.out | (with_reducible refine Kd.C_alloc ?_ _) | (with_reducible refine Kd.C_drewN ?_ _) | (with_reducible refine Kd.C_drew ?_))); (case side2 => exact HC0.out); rintro e w' ⟨rfl, ⟨nd, rfl⟩⟩; refine ⟨_, rfl, ?_⟩) | (go_at_call 68; (with_reducible refine (impl_isDistance.calls a1 t464 _ A6.out).mono ?_); rintro e w' ⟨rfl, ⟨nd, rfl⟩⟩))
   go_meet
   case rel => exact ⟨_, (!t464), eqd, H', ⟨leD⟩, by repeat (first | exact Drawn0.refl _ | apply Drawn0.step)⟩
  ·replace c5 := Bool.eq_false_iff.mpr c5
   subst c5
   have H1 : (impl_MeasureWith.j0 k l0 a1 true) = some (r1, r2, r3) := by rw [if_neg (show ¬ (false = true) by decide)] at H; exact H
   clear H
   have H := H1
   clear H1
   have H' := Aside0.mk H
   clear H
   go_wp2_with (first | ((with_reducible refine gate_callee (f := 22) rfl ?_); refine goesA (some 10) Try.func22 #[.slice A0 l0.length c0] ?_; (with_reducible refine (impl_IsRuler.calls k _ _ l0 false _ ?side1 ?side2 A4.out).mono ?_); (case side1 => repeat (first | exact HR0.out | (with_reducible refine Kd.C_alloc ?_ _) | (with_reducible refine Kd.C_drewN ?_ _) | (with_reducible refine Kd.C_drew ?_))); (case side2 => exact HC0.out); rintro e w' ⟨rfl, ⟨nd, rfl⟩⟩; refine ⟨_, rfl, ?_⟩))
   go_meet
   case rel => exact ⟨_, (true), eqd, H', ⟨leD⟩, by repeat (first | exact Drawn0.refl _ | apply Drawn0.step)⟩
 case rest =>
  clear HC3
  try clear c2
  try clear p2
  try clear c5
  obtain ⟨kq, x16_2, rfl, HA, HJ2, ⟨mc2, rfl⟩⟩ := hcut
  cases kq with
  | zero => exact absurd HA.out (by simp [impl_MeasureWith.j0])
  | succ kj2 =>
   have H := HA.out
   clear HA
   simp only [impl_MeasureWith.j0] at H
   by_cases c7 : x16_2 = true
   ·subst c7
    have H1 : (some (0, 0, false)) = some (r1, r2, r3) := by rw [if_pos rfl] at H; exact H
    clear H
    have H := H1
    clear H1
    simp only [Option.some.injEq, Prod.mk.injEq] at H
    obtain ⟨rfl, rfl, rfl⟩ := H
    go_wp2
    go_ret3
    exact ⟨by first | rfl | (simp; done) | (simp [*]; done), by repeat (first | exact Drawn0.refl _ | apply Drawn0.step)⟩
   ·replace c7 := Bool.eq_false_iff.mpr c7
    subst c7
    have H1 : (impl_MeasureWith.l0 kj2 l0 a1 l0 (l0.length : Int) 0) = some (r1, r2, r3) := by rw [if_neg (show ¬ (false = true) by decide)] at H; exact H
    clear H
    have H := H1
    clear H1
    have H' := Aside0.mk H
    clear H
    go_wp2
    go_loopg [19] kj2 (fun kq v19 w' => ∃ (x19_2 : Int), v19 = .int .i64 x19_2 ∧ Aside0 (impl_MeasureWith.l0 kq l0 a1 l0 (l0.length : Int) x19_2 = some (r1, r2, r3)) ∧ Aside0 (kq ≤ kj2) ∧ Drawn0 w w')
    case atStart => exact ⟨(0), eqd, H', ⟨Nat.le_refl _⟩, by repeat (first | exact Drawn0.refl _ | apply Drawn0.step)⟩
    case round =>
     clear H'
     try clear c2
     try clear p2
     try clear c5
     try clear c7
     try clear p2
     obtain ⟨x19_2, rfl, HA, HK2, ⟨m2, rfl⟩⟩ := hrel
     cases gk with
     | zero => exact absurd HA.out (by simp [impl_MeasureWith.l0])
     | succ k2 =>
      have H := HA.out
      clear HA
      simp only [impl_MeasureWith.l0] at H
      by_cases c8 : x19_2 < (l0.length : Int)
      ·rw [if_pos c8] at H
       have c8b0 : decide (x19_2 < (l0.length : Int)) = true := decide_eq_true c8
       clear c8
       by_cases c9 : 0 ≤ x19_2
       ·rw [if_pos c9] at H
        have c9b0 : decide (0 ≤ x19_2) = true := decide_eq_true c9
        clear c9
        by_cases c10 : x19_2 < (l0.length : Int)
        ·rw [if_pos c10] at H
         have c10b0 : decide (x19_2 < (l0.length : Int)) = true := decide_eq_true c10
         clear c10
         replace H := Option.bind_eq_some_iff.mp H
         obtain ⟨t466, A110, H⟩ := H
         replace H : (if t466 = true then (some (rd l0 x19_2, wrap64 ((rd l0 x19_2) + a1), true)) else (impl_MeasureWith.l0 k2 l0 a1 l0 (l0.length : Int) (wrap64 (x19_2 + 1)))) = some (r1, r2, r3) := H
         have A11 := Aside0.mk A110
         clear A110
         by_cases c12 : t466 = true
         ·subst c12
          have H1 : (some (rd l0 x19_2, wrap64 ((rd l0 x19_2) + a1), true)) = some (r1, r2, r3) := by rw [if_pos rfl] at H; exact H
          clear H
          have H := H1
          clear H1
          simp only [Option.some.injEq, Prod.mk.injEq] at H
          obtain ⟨rfl, rfl, rfl⟩ := H
          have p465 : 0 ≤ (x19_2 : Int) := ofd
          have q465 : x19_2 < (l0.length : Int) := ofd
          obtain ⟨ad465, e465, hx465_0⟩ := Kd.at_int HR0.out x19_2 p465 q465
          cases e465
          replace p465 := eq_true p465
          replace q465 := eq_true q465
          go_wp2_with (first | ((with_reducible refine gate_callee (f := 69) rfl ?_); refine goesA (some 27) Try.func69 #[.slice (some ad465) l0.length c0, .int .i64 (wrap64 ((rd l0 x19_2) + a1))] ?_; (with_reducible refine (slices_Contains_int_int.calls k2 _ _ l0 (wrap64 ((rd l0 x19_2) + a1)) true _ ?side1 ?side2 A11.out).mono ?_); (case side1 => repeat (first | exact HR0.out | (with_reducible refine Kd.C_alloc ?_ _) | (with_reducible refine Kd.C_drewN ?_ _) | (with_reducible refine Kd.C_drew ?_))); (case side2 => exact HC0.out); rintro e w' ⟨rfl, ⟨nd, rfl⟩⟩; refine ⟨_, rfl, ?_⟩))
          go_ret3
          exact ⟨by first | rfl | (simp; done) | (simp [*]; done), by repeat (first | exact Drawn0.refl _ | apply Drawn0.step)⟩
         ·replace c12 := Bool.eq_false_iff.mpr c12
          subst c12
          have H1 : (impl_MeasureWith.l0 k2 l0 a1 l0 (l0.length : Int) (wrap64 (x19_2 + 1))) = some (r1, r2, r3) := by rw [if_neg (show ¬ (false = true) by decide)] at H; exact H
          clear H
          have H := H1
          clear H1
          have H' := Aside0.mk H
          clear H
          have p465 : 0 ≤ (x19_2 : Int) := ofd
          have q465 : x19_2 < (l0.length : Int) := ofd
          obtain ⟨ad465, e465, hx465_0⟩ := Kd.at_int HR0.out x19_2 p465 q465
          cases e465
          replace p465 := eq_true p465
          replace q465 := eq_true q465
          go_wp2_with (first | ((with_reducible refine gate_callee (f := 69) rfl ?_); refine goesA (some 27) Try.func69 #[.slice (some ad465) l0.length c0, .int .i64 (wrap64 ((rd l0 x19_2) + a1))] ?_; (with_reducible refine (slices_Contains_int_int.calls k2 _ _ l0 (wrap64 ((rd l0 x19_2) + a1)) false _ ?side1 ?side2 A11.out).mono ?_); (case side1 => repeat (first | exact HR0.out | (with_reducible refine Kd.C_alloc ?_ _) | (with_reducible refine Kd.C_drewN ?_ _) | (with_reducible refine Kd.C_drew ?_))); (case side2 => exact HC0.out); rintro e w' ⟨rfl, ⟨nd, rfl⟩⟩; refine ⟨_, rfl, ?_⟩))
          go_roundg k2
          case measure => have := HJ2.out; have := HK2.out; omega
          case rel => exact ⟨(wrap64 (x19_2 + 1)), eqd, H', ⟨by have := HJ2.out; have := HK2.out; omega⟩, by repeat (first | exact Drawn0.refl _ | apply Drawn0.step)⟩
        ·rw [if_neg c10] at H
         exact absurd H (by simp)
       ·rw [if_neg c9] at H
        exact absurd H (by simp)
      ·rw [if_neg c8] at H
       have c8b0 : decide (x19_2 < (l0.length : Int)) = false := decide_eq_false c8
       clear c8
       simp only [Option.some.injEq, Prod.mk.injEq] at H
       obtain ⟨rfl, rfl, rfl⟩ := H
       go_wp2
       go_ret3
       exact ⟨by first | rfl | (simp; done) | (simp [*]; done), by repeat (first | exact Drawn0.refl _ | apply Drawn0.step)⟩

noncomputable def impl_MeasureWith.J0 (x0 : List Int) (x1 : Int) (x16 : Bool) : Option (Int × Int × Bool) := lim fun k => impl_MeasureWith.j0 k x0 x1 x16
theorem impl_MeasureWith.J0_lim (x0 : List Int) (x1 : Int) (x16 : Bool) : Lim (fun k => impl_MeasureWith.j0 k x0 x1 x16) (impl_MeasureWith.J0 x0 x1 x16) := Lim.of fun k => (impl_MeasureWith.mono_l k).1 x0 x1 x16
noncomputable def impl_MeasureWith.L0 (x0 : List Int) (x1 : Int) (x17 : List Int) (x18 : Int) (x19 : Int) : Option (Int × Int × Bool) := lim fun k => impl_MeasureWith.l0 k x0 x1 x17 x18 x19
theorem impl_MeasureWith.L0_lim (x0 : List Int) (x1 : Int) (x17 : List Int) (x18 : Int) (x19 : Int) : Lim (fun k => impl_MeasureWith.l0 k x0 x1 x17 x18 x19) (impl_MeasureWith.L0 x0 x1 x17 x18 x19) := Lim.of fun k => (impl_MeasureWith.mono_l k).2 x0 x1 x17 x18 x19
noncomputable def impl_MeasureWith.F (l0 : List Int) (a1 : Int) : Option (Int × Int × Bool) := lim fun k => impl_MeasureWith.f k l0 a1
theorem impl_MeasureWith.F_lim (l0 : List Int) (a1 : Int) : Lim (fun k => impl_MeasureWith.f k l0 a1) (impl_MeasureWith.F l0 a1) := Lim.of fun k => impl_MeasureWith.mono l0 a1 k
theorem impl_MeasureWith.J0_eq (x0 : List Int) (x1 : Int) (x16 : Bool) : impl_MeasureWith.J0 x0 x1 x16 = (if x16 = true then (some (0, 0, false)) else (impl_MeasureWith.L0 x0 x1 x0 (x0.length : Int) 0)) :=
 Lim.step (f := fun k => impl_MeasureWith.j0 (k + 1) x0 x1 x16) (impl_MeasureWith.J0_lim x0 x1 x16) (fun _ => rfl) (by
  simp only [impl_MeasureWith.j0]
  repeat' (first | (with_reducible first | exact Lim.const _ | exact impl_MeasureWith.L0_lim _ _ _ _ _ | refine Lim.ite ?_ ?_ | refine Lim.bind ?_ (fun _ => ?_))))
theorem impl_MeasureWith.L0_eq (x0 : List Int) (x1 : Int) (x17 : List Int) (x18 : Int) (x19 : Int) : impl_MeasureWith.L0 x0 x1 x17 x18 x19 = (if x19 < x18 then (if 0 ≤ x19 then (if x19 < (x17.length : Int) then ((slices_Contains_int_int.F x0 (wrap64 ((rd x17 x19) + x1))).bind fun t466 => (if t466 = true then (some (rd x17 x19, wrap64 ((rd x17 x19) + x1), true)) else (impl_MeasureWith.L0 x0 x1 x17 x18 (wrap64 (x19 + 1))))) else (none)) else (none)) else (some (0, 0, false))) :=
 Lim.step (f := fun k => impl_MeasureWith.l0 (k + 1) x0 x1 x17 x18 x19) (impl_MeasureWith.L0_lim x0 x1 x17 x18 x19) (fun _ => rfl) (by
  simp only [impl_MeasureWith.l0]
  repeat' (first | (with_reducible first | exact Lim.const _ | exact impl_MeasureWith.L0_lim _ _ _ _ _ | exact slices_Contains_int_int.F_lim _ _ | refine Lim.ite ?_ ?_ | refine Lim.bind ?_ (fun _ => ?_))))
theorem impl_MeasureWith.F_eq (l0 : List Int) (a1 : Int) : impl_MeasureWith.F l0 a1 = ((impl_IsRuler.F l0).bind fun t463 => (if t463 = true then ((impl_isDistance.f a1).bind fun t464 => (impl_MeasureWith.J0 l0 a1 (!t464))) else (impl_MeasureWith.J0 l0 a1 true))) :=
 Lim.unique (impl_MeasureWith.F_lim l0 a1) (by
  unfold impl_MeasureWith.f
  repeat' (first | (with_reducible first | exact Lim.const _ | exact impl_IsRuler.F_lim _ | exact impl_MeasureWith.J0_lim _ _ _ | refine Lim.ite ?_ ?_ | refine Lim.bind ?_ (fun _ => ?_))))

end Go.Proofs.Ytofjndbpndpjjaa.Fn
