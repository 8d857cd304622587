/- The machine's side and plain lemmas for FnCirclesDiffer: texts of this session, merged by its program (part 0). -/
import Derived.Test.YtofjndbpndpjjaaVFnCirclesDiffer
import Derived.Test.YtofjndbpndpjjaaProg
import Derived.Below
import Derived.Deep.Draws
import Derived.Deep.AppendLies
import Derived.Maps.AppendAt
import Derived.OwnWalk
import Derived.Laws.BytesArg
import Derived.Laws.MakeOwn
import Derived.Laws.OwnMore
import Derived.Deep.OwnRows
import Derived.Tactics
import Derived.Lib.ConvBytes
import Derived.Laws.Slices
import Derived.WalkKit
import Derived.KernelRfl
import Derived.RowKit3
import Derived.Deep.LoopGhost
import Derived.Deep.QuietTactic
import Derived.BigQuiet
import Derived.WideLaws
import Derived.Deep.DeepCutAuto
import Derived.Deep.CutBlock
import Derived.Deep.RegionHeld3
import Derived.Laws.Rows
import Derived.Lib.AppendStr
import Derived.ArgAppend
import Derived.Laws.IdiomCopy
import Derived.OrdersHeld
import Derived.Laws.BitsLemmas
import Derived.RowKit
import Derived.Sort.OwnSortedInts
import Derived.Test.YtofjndbpndpjjaaShelf
namespace Go.Proofs.Ytofjndbpndpjjaa.Fn
open Go.RowKit Go.Proofs.YtofjndbpndpjjaaW.PrintWords Go.Proofs.YtofjndbpndpjjaaW.PrintLast

/-- What a function with rounds comes to; none where it comes to nothing. -/
noncomputable def lim {α : Type} (g : Nat → Option α) : Option α := open Classical in if h : ∃ k r, g k = some r then g (Classical.choose h) else none
/-- g gives more with more rounds, and comes to a. -/
structure Lim {α : Type} (g : Nat → Option α) (a : Option α) : Prop where
  mono : ∀ k, LeO (g k) (g (k + 1))
  comes : ∀ r, a = some r ↔ ∃ k, g k = some r
theorem lim_some {α : Type} {g : Nat → Option α} (hg : ∀ k, LeO (g k) (g (k + 1))) (r : α) : lim g = some r ↔ ∃ k, g k = some r := by
  unfold lim
  constructor
  · intro h
    split at h
    · exact ⟨_, h⟩
    · cases h
  · rintro ⟨k, hk⟩
    have hx : ∃ k r, g k = some r := ⟨k, r, hk⟩
    rw [dif_pos hx]
    obtain ⟨r', hr'⟩ := Classical.choose_spec hx
    have h1 := at_rounds hg (Nat.le_max_left k (Classical.choose hx)) hk
    have h2 := at_rounds hg (Nat.le_max_right k (Classical.choose hx)) hr'
    rw [h1] at h2
    rw [hr', h2]
theorem Lim.of {α : Type} {g : Nat → Option α} (hg : ∀ k, LeO (g k) (g (k + 1))) : Lim g (lim g) := ⟨hg, lim_some hg⟩
theorem Lim.unique {α : Type} {g : Nat → Option α} {a b : Option α} (ha : Lim g a) (hb : Lim g b) : a = b := by
  have h : ∀ r, a = some r ↔ b = some r := fun r => (ha.comes r).trans (hb.comes r).symm
  cases a with
  | none =>
    cases b with
    | none => rfl
    | some r => exact absurd ((h r).2 rfl) (by simp)
  | some r => exact ((h r).1 rfl).symm
theorem Lim.const {α : Type} (a : Option α) : Lim (fun _ => a) a := ⟨fun _ => LeO.refl _, fun _ => ⟨fun h => ⟨0, h⟩, fun ⟨_, h⟩ => h⟩⟩
theorem Lim.ite {α : Type} {c : Prop} [Decidable c] {g f : Nat → Option α} {a b : Option α} (hg : Lim g a) (hf : Lim f b) : Lim (fun k => if c then g k else f k) (if c then a else b) := by
  by_cases h : c
  · simp only [if_pos h]
    exact hg
  · simp only [if_neg h]
    exact hf
theorem Lim.bind {α β : Type} {g : Nat → Option α} {f : Nat → α → Option β} {a : Option α} {b : α → Option β} (hg : Lim g a) (hf : ∀ x, Lim (fun k => f k x) (b x)) : Lim (fun k => (g k).bind (f k)) (a.bind b) := by
  refine ⟨fun k => LeO.bind (hg.mono k) (fun x => (hf x).mono k), fun r => ⟨fun h => ?_, fun ⟨k, h⟩ => ?_⟩⟩
  · obtain ⟨x, hx, hb⟩ := Option.bind_eq_some_iff.1 h
    obtain ⟨k, hk⟩ := (hg.comes x).1 hx
    obtain ⟨k', hk'⟩ := ((hf x).comes r).1 hb
    refine ⟨max k k', Option.bind_eq_some_iff.2 ⟨x, at_rounds hg.mono (Nat.le_max_left _ _) hk, ?_⟩⟩
    exact at_rounds (g := fun k => f k x) (hf x).mono (Nat.le_max_right _ _) hk'
  · obtain ⟨x, hx, hb⟩ := Option.bind_eq_some_iff.1 h
    exact Option.bind_eq_some_iff.2 ⟨x, (hg.comes x).2 ⟨k, hx⟩, ((hf x).comes r).2 ⟨k, hb⟩⟩
/-- One round of a loop: what stands behind it comes to the same. -/
theorem Lim.step {α : Type} {g f : Nat → Option α} {a b : Option α} (ha : Lim g a) (hs : ∀ k, g (k + 1) = f k) (hf : Lim f b) : a = b := by
  refine Lim.unique (g := f) ⟨hf.mono, fun r => (ha.comes r).trans ⟨fun ⟨k, h⟩ => ⟨k, ?_⟩, fun ⟨k, h⟩ => ⟨k + 1, (hs k).trans h⟩⟩⟩ hf
  rw [← hs]
  exact ha.mono k r h
theorem Lim.rounds {α : Type} {g : Nat → Option α} {a : Option α} {r : α} (h : Lim g a) (e : a = some r) : ∃ k, g k = some r := (h.comes r).1 e

/-! ### loops over a list -/
theorem wrap_in {n : Int} (h0 : -9223372036854775808 ≤ n) (h1 : n ≤ 9223372036854775807) : wrap64 n = n := by
  unfold wrap64
  omega
theorem rd_mid (pre : List Int) (x : Int) (suf : List Int) : rd (pre ++ x :: suf) (pre.length : Int) = x := by
  unfold rd
  simp
theorem rd_nat (l : List Int) (i : Nat) (h : i < l.length) : rd l (i : Int) = l[i] := by
  unfold rd
  simp [List.getD_eq_getElem?_getD, List.getElem?_eq_getElem h]
theorem range_step {α : Type} {pre : List Int} {x : Int} {suf : List Int} {b n1 n2 e : α} : (if (pre.length : Int) < ((pre ++ x :: suf).length : Int) then (if 0 ≤ (pre.length : Int) then (if (pre.length : Int) < ((pre ++ x :: suf).length : Int) then b else n1) else n2) else e) = b := by
  have h : (pre.length : Int) < ((pre ++ x :: suf).length : Int) := by rw [List.length_append, List.length_cons]; omega
  rw [if_pos h, if_pos (by omega), if_pos h]
theorem range_end {α : Type} {pre : List Int} {b e : α} : (if (pre.length : Int) < ((pre ++ []).length : Int) then b else e) = e := by
  rw [if_neg (by simp)]
theorem wrap_mid {pre : List Int} {x : Int} {suf : List Int} (h : (pre ++ x :: suf).length < 4611686018427387904) : wrap64 ((pre.length : Int) + 1) = ((pre ++ [x]).length : Int) := by
  have h1 : pre.length + 1 ≤ (pre ++ x :: suf).length := by rw [List.length_append, List.length_cons]; omega
  rw [wrap_in (by omega) (by omega)]
  simp
theorem app_mid (pre : List Int) (x : Int) (suf : List Int) : pre ++ x :: suf = (pre ++ [x]) ++ suf := by simp
/-- What is held up to here is nothing; from here on it is S'. -/
theorem weak_ {P : Program} {md : Region.Mode} {ops : Array Oper} {Q : Exit → Act → World → Prop} {S' : World → Prop} {ds : List Nat} : ∀ {fuel : Nat} {l : Array Bool} {a : Act} {w : World}, wpAnyLast P md ops Q S' ds fuel l a w → wpAnyLast P md ops Q (fun _ => True) ds fuel l a w
  | 0, _, _, _, h => h
  | _ + 1, _, _, _, h => ⟨h.1, fun i hi => wpOp_mono (fun _ _ h' => ⟨fun _ _ => trivial, weak_ h'.2⟩) (h.2 i hi)⟩
/-! #### steps of the walk in short: what is pending between two events (values drawn, boxes made) is told by default -/
section
variable {α : Type} {d : Kd α} {e base : Nat} {ok : Nat → Prop} {v : Value} {xs : List α} {w0 w w1 w2 : World}
theorem upR (h : Aside0 (Kd.R d e w base ok v xs)) (hb : Below w1.heap.size w1 w2) (hm : Below w.heap.size w w1 := by (with_reducible repeat (first | exact Below.refl _ _ | apply below_alloc | apply pw_below_drewN | apply below_drew1))) : Aside0 (Kd.R d e w2 base ok v xs) := ⟨Kd.R_below h.out (hm.trans (hb.mono hm.size))⟩
theorem upS (h : Aside0 (Kd.S d e w base ok v xs)) (hb : Below w1.heap.size w1 w2) (hm : Below w.heap.size w w1 := by (with_reducible repeat (first | exact Below.refl _ _ | apply below_alloc | apply pw_below_drewN | apply below_drew1))) : Aside0 (Kd.S d e w2 base ok v xs) := ⟨Kd.S_below h.out (hm.trans (hb.mono hm.size))⟩
theorem upC {A : Option Addr} {n : Nat} (h : Aside0 (Kd.C d w A n xs)) (hb : Below w1.heap.size w1 w2) (hm : Below w.heap.size w w1 := by (with_reducible repeat (first | exact Below.refl _ _ | apply below_alloc | apply pw_below_drewN | apply below_drew1))) : Aside0 (Kd.C d w2 A n xs) := ⟨Kd.C_below h.out (hm.trans (hb.mono hm.size))⟩
theorem atC {A : Option Addr} {n : Nat} (h : Aside0 (Kd.C d w A n xs)) (hm : Below w.heap.size w w1 := by (with_reducible repeat (first | exact Below.refl _ _ | apply below_alloc | apply pw_below_drewN | apply below_drew1))) : Kd.C d w1 A n xs := Kd.C_below h.out hm
theorem atRC {A : Option Addr} {n c : Nat} (h : Aside0 (Kd.R d e w base ok (.slice A n c) xs)) (hm : Below w.heap.size w w1 := by (with_reducible repeat (first | exact Below.refl _ _ | apply below_alloc | apply pw_below_drewN | apply below_drew1))) : Kd.C d w1 A xs.length xs := Kd.C_below (Kd.R_reads' h.out).2.2 hm
theorem atSC {A : Option Addr} {n c : Nat} (h : Aside0 (Kd.S d e w base ok (.slice A n c) xs)) (hm : Below w.heap.size w w1 := by (with_reducible repeat (first | exact Below.refl _ _ | apply below_alloc | apply pw_below_drewN | apply below_drew1))) : Kd.C d w1 A xs.length xs := Kd.C_below (Kd.S_reads' h.out).2.2 hm
theorem upB (h : Aside0 (Below w0.heap.size w0 w)) (hb : Below w1.heap.size w1 w2) (hm : Below w.heap.size w w1 := by (with_reducible repeat (first | exact Below.refl _ _ | apply below_alloc | apply pw_below_drewN | apply below_drew1))) : Aside0 (Below w0.heap.size w0 w2) := ⟨below_step (below_step h.out hm) hb⟩
theorem atB (h : Aside0 (Below w0.heap.size w0 w)) (hm : Below w.heap.size w w1 := by (with_reducible repeat (first | exact Below.refl _ _ | apply below_alloc | apply pw_below_drewN | apply below_drew1))) : Below w0.heap.size w0 w1 := below_step h.out hm
theorem lowR (h : Kd.R d e w2 w1.heap.size ok v xs) (hB : Aside0 (Below w0.heap.size w0 w)) (hm : Below w.heap.size w w1 := by (with_reducible repeat (first | exact Below.refl _ _ | apply below_alloc | apply pw_below_drewN | apply below_drew1))) : Aside0 (Kd.R d e w2 w0.heap.size ok v xs) := ⟨Kd.R_lower h (below_size (below_step hB.out hm))⟩
theorem lowS (h : Kd.S d e w2 w1.heap.size ok v xs) (hB : Aside0 (Below w0.heap.size w0 w)) (hm : Below w.heap.size w w1 := by (with_reducible repeat (first | exact Below.refl _ _ | apply below_alloc | apply pw_below_drewN | apply below_drew1))) : Aside0 (Kd.S d e w2 w0.heap.size ok v xs) := ⟨Kd.S_lower h (below_size (below_step hB.out hm))⟩
theorem upK {g : Nat} (hK : Aside0 (KeepBut w0 w g none)) (hk : KeepBut w1 w2 g none) (hm : Below w.heap.size w w1 := by (with_reducible repeat (first | exact Below.refl _ _ | apply below_alloc | apply pw_below_drewN | apply below_drew1))) : Aside0 (KeepBut w0 w2 g none) := ⟨(hK.out.trans (KeepBut.of_below hm g none) (.inl rfl)).trans hk (.inl rfl)⟩
theorem upKB {g : Nat} (hK : Aside0 (KeepBut w0 w g none)) (hb : Below w1.heap.size w1 w2) (hm : Below w.heap.size w w1 := by (with_reducible repeat (first | exact Below.refl _ _ | apply below_alloc | apply pw_below_drewN | apply below_drew1))) : Aside0 (KeepBut w0 w2 g none) := ⟨(hK.out.trans (KeepBut.of_below hm g none) (.inl rfl)).trans (KeepBut.of_below hb g none) (.inl rfl)⟩
theorem lowKR {g : Nat} (h : Kd.R d e w2 w1.heap.size ok v xs) (hK : Aside0 (KeepBut w0 w g none)) (hm : Below w.heap.size w w1 := by (with_reducible repeat (first | exact Below.refl _ _ | apply below_alloc | apply pw_below_drewN | apply below_drew1))) : Aside0 (Kd.R d e w2 w0.heap.size ok v xs) := ⟨Kd.R_lower h (keep_size (hK.out.trans (KeepBut.of_below hm g none) (.inl rfl)))⟩
theorem lowKS {g : Nat} (h : Kd.S d e w2 w1.heap.size ok v xs) (hK : Aside0 (KeepBut w0 w g none)) (hm : Below w.heap.size w w1 := by (with_reducible repeat (first | exact Below.refl _ _ | apply below_alloc | apply pw_below_drewN | apply below_drew1))) : Aside0 (Kd.S d e w2 w0.heap.size ok v xs) := ⟨Kd.S_lower h (keep_size (hK.out.trans (KeepBut.of_below hm g none) (.inl rfl)))⟩
theorem szK {g : Nat} (hK : Aside0 (KeepBut w0 w g none)) (hm : Below w.heap.size w w1 := by (with_reducible repeat (first | exact Below.refl _ _ | apply below_alloc | apply pw_below_drewN | apply below_drew1))) : w0.heap.size ≤ w1.heap.size := keep_size (hK.out.trans (KeepBut.of_below hm g none) (.inl rfl))
theorem szB (hB : Aside0 (Below w0.heap.size w0 w)) (hm : Below w.heap.size w w1 := by (with_reducible repeat (first | exact Below.refl _ _ | apply below_alloc | apply pw_below_drewN | apply below_drew1))) : w0.heap.size ≤ w1.heap.size := below_size (below_step hB.out hm)
theorem ltR (h : Aside0 (Kd.R d e w base ok v xs)) (hm : Below w.heap.size w w1 := by (with_reducible repeat (first | exact Below.refl _ _ | apply below_alloc | apply pw_below_drewN | apply below_drew1))) : ∀ k, v.ownBlock = some k → k < w1.heap.size := Kd.R_lt (Kd.R_below h.out hm)
theorem ltS (h : Aside0 (Kd.S d e w base ok v xs)) (hm : Below w.heap.size w w1 := by (with_reducible repeat (first | exact Below.refl _ _ | apply below_alloc | apply pw_below_drewN | apply below_drew1))) : ∀ k, v.ownBlock = some k → k < w1.heap.size := Kd.S_lt (Kd.S_below h.out hm)
theorem eldRR {β : Type} {d' : Kd β} {e' : Nat} {ok' : Nat → Prop} {u : Value} {ys : List β} (h : Aside0 (Kd.R d e w base ok v xs)) (h2 : Kd.R d' e' w2 w1.heap.size ok' u ys) (hb : Below w1.heap.size w1 w2) (hm : Below w.heap.size w w1 := by (with_reducible repeat (first | exact Below.refl _ _ | apply below_alloc | apply pw_below_drewN | apply below_drew1))) : Aside0 (Kd.R d e w2 base (fun k => ok k ∧ some k ≠ u.ownBlock) v xs) := ⟨Kd.R_elder' (Kd.R_below h.out hm) (Kd.R_base h2) hb⟩
theorem eldSR {β : Type} {d' : Kd β} {e' : Nat} {ok' : Nat → Prop} {u : Value} {ys : List β} (h : Aside0 (Kd.S d e w base ok v xs)) (h2 : Kd.R d' e' w2 w1.heap.size ok' u ys) (hb : Below w1.heap.size w1 w2) (hm : Below w.heap.size w w1 := by (with_reducible repeat (first | exact Below.refl _ _ | apply below_alloc | apply pw_below_drewN | apply below_drew1))) : Aside0 (Kd.S d e w2 base (fun k => ok k ∧ some k ≠ u.ownBlock) v xs) := ⟨Kd.S_elder' (Kd.S_below h.out hm) (Kd.R_base h2) hb⟩
theorem atR (h : Aside0 (Kd.R d e w base ok v xs)) (hm : Below w.heap.size w w1 := by (with_reducible repeat (first | exact Below.refl _ _ | apply below_alloc | apply pw_below_drewN | apply below_drew1))) : Kd.R d e w1 base ok v xs := Kd.R_below h.out hm
theorem atS (h : Aside0 (Kd.S d e w base ok v xs)) (hm : Below w.heap.size w w1 := by (with_reducible repeat (first | exact Below.refl _ _ | apply below_alloc | apply pw_below_drewN | apply below_drew1))) : Kd.S d e w1 base ok v xs := Kd.S_below h.out hm
theorem atK {g : Nat} (hK : Aside0 (KeepBut w0 w g none)) (hm : Below w.heap.size w w1 := by (with_reducible repeat (first | exact Below.refl _ _ | apply below_alloc | apply pw_below_drewN | apply below_drew1))) : KeepBut w0 w1 g none := hK.out.trans (KeepBut.of_below hm g none) (.inl rfl)
end
/-- A literal of rows, in a region of its own world. -/
theorem N_lit0 {P : Program} {ops : Array Oper} {rest : List Oper} {o : Oper} {a : Act} {Q : Exit → Act → World → Prop} {α : Type} (d : Kd α) {W : World} (e : Nat) (hg : o.guard = none) {N' : Tmp} (hd : o.dst = some N') {xs : List α} {inner : List Value} {ok okp : Nat → Prop}
    (hr : Go.Sem.run P (execOp a.eval o) W = .ok (.value (.slice (some { block := W.heap.size, off := 0 }) xs.length xs.length)) (W.alloc (.cells inner.toArray e))) (hp : Reps (d.FK W okp) d.sz xs inner) (hk : ∀ k : Nat, okp k → ok k) (h0 : ok W.heap.size) (hl : xs.length ≤ 9223372036854775807)
    (h : ∀ (v1 : Value) (w1 : World), d.N e w1 W.heap.size ok v1 xs → Below W.heap.size W w1 → W.grownBy w1 none → (∃ b, v1.ownBlock = some b ∧ W.heap.size ≤ b) → wpList P ops Q rest (a.put o.dst v1) w1) : wpList P ops Q (o :: rest) a W :=
  Kd.N_lit d (w0 := W) W.heap.size e hg hd hr hp hk h0 (Below.refl _ _) (Nat.le_refl _) hl h
theorem repsI {W : World} {b : Nat} {ok : Nat → Prop} : ∀ xs : List Int, Reps (Kd.M (Kd.int .i64) W b ok) 1 xs (xs.map (Value.int .i64))
  | [] => Reps.none _ _
  | _ :: xs => Reps.one rfl (repsI xs)
theorem eqd {β : Sort _} {a b : β} (h : a = b := by first | rfl | (simp; done) | (simp [*]; done)) : a = b := h
theorem eqr {β : Sort _} {a b : β} (h : a = b := by first | rfl | (simp [errW_none, errW_some] <;> rfl) | (simp [*, errW_none, errW_some] <;> rfl)) : a = b := h
theorem leD {a b : Nat} (h : a ≤ b := by first | omega | exact Nat.le_refl _) : a ≤ b := h
theorem ofd {p : Prop} [Decidable p] (h : decide p = true := by first | (with_reducible assumption) | assumption) : p := of_decide_eq_true h
theorem goesA {P : Program} {ops : Array Oper} {Q : Exit → Act → World → Prop} {rest : List Oper} {oi : Oper} {a : Act} {w : World} {f : FuncId} {fn : Func} {opers : Array Operand} {ts : Array TypeId} (N : Option Tmp) (hf : P.funcs[f]? = some fn) (args : Array Value) (h : Calls P f args w fun e w' => ∃ v, e = .returned v ∧ wpList P ops Q rest (a.put N v) w') (hd : oi.dst = N := by exact rfl) (hg : oi.guard = none := by exact rfl) (hname : (fn.name == "runtime.NumGoroutine") = false := by kernel_rfl) (hb : fn.body.isSome = true := by exact rfl) (hop : oi.op = .call { callee := .value (.func f), args := opers, argTypes := ts } := by exact rfl) (hargs : opers.map a.eval = args := by ((try simp only [List.map_toArray, List.map_cons, List.map_nil]); first | done | rfl | (simp only [List.length_drop, List.length_take]; rfl))) : wpList P ops Q (oi :: rest) a w := goesL_ N hd hg hf hname hb args hop hargs h
/-! #### a number put into a list: 'append(append(append([]int{}, out[:at]...), k), out[at:]...)' -/
def insAt.f (out : List Int) (a k : Int) : Option (List Int) := if 0 ≤ a ∧ a ≤ (out.length : Int) ∧ out.length ≤ 1000000 then some (out.take a.toNat ++ [k] ++ out.drop a.toNat) else none
theorem insAt_parts {out r : List Int} {a k : Int} (h : (if 0 ≤ a ∧ a ≤ (out.length : Int) ∧ out.length ≤ 1000000 then some (out.take a.toNat ++ [k] ++ out.drop a.toNat) else none) = some r) : 0 ≤ a ∧ a ≤ (out.length : Int) ∧ out.length ≤ 1000000 ∧ out.take a.toNat ++ [k] ++ out.drop a.toNat = r := by
  by_cases hc : 0 ≤ a ∧ a ≤ (out.length : Int) ∧ out.length ≤ 1000000
  · rw [if_pos hc] at h
    exact ⟨hc.1, hc.2.1, hc.2.2, Option.some.inj h⟩
  · rw [if_neg hc] at h
    cases h
theorem C_box {w : World} {b e : Nat} {k : Int} (h : w.heap[b]? = some (.cells #[.int .i64 k] e (0, 0))) : Kd.C (Kd.int .i64) w (some ⟨b, 0, none⟩) 1 [k] := by
  refine Kd.C_of_reads (d := (0 : Int)) (h1 := fun _ => rfl) ⟨rfl, by omega, fun _ => ⟨_, rfl, fun j hj => ?_⟩⟩
  have : j = 0 := by omega
  subst this
  exact (blk_cell h 0).trans rfl
theorem heap_lt_alloc (w : World) (o : Obj) : w.heap.size < (w.alloc o).heap.size := by
  have h : (w.alloc o).heap.size = w.heap.size + 1 := Array.size_push _
  omega
theorem lt_of_cells {w : World} {k : Nat} {o : Obj} (h : w.heap[k]? = some o) : k < w.heap.size := (Array.getElem?_eq_some_iff.1 h).1
theorem new_ne {α : Type} {d : Kd α} {e : Nat} {w : World} {base : Nat} {ok : Nat → Prop} {v : Value} {xs : List α} (h : d.R e w base ok v xs) : some w.heap.size ≠ v.ownBlock := fun he => by
  obtain ⟨inner, ho⟩ := Kd.R_own h
  have := own_lt ho w.heap.size he.symm
  omega
theorem elder_ne {v : Value} {k n : Nat} (h : ∃ b, v.ownBlock = some b ∧ n ≤ b) (hk : k < n) : some k ≠ v.ownBlock := fun he => by
  obtain ⟨b, hb, hn⟩ := h
  rw [hb] at he
  injection he with he
  omega
/-! #### a search that calls a function with each row that it has made -/
/-- Blocks of elements of type e, those of Y left out, stay as they are. -/
def KeepI (e : Nat) (Y : Nat → Prop) (w w' : World) : Prop := ∀ k cells, ¬ Y k → w.heap[k]? = some (.cells cells e (0, 0)) → w'.heap[k]? = some (.cells cells e (0, 0))
theorem KeepI.refl (e : Nat) (Y : Nat → Prop) (w : World) : KeepI e Y w w := fun _ _ _ h => h
theorem KeepI.trans {e : Nat} {Y : Nat → Prop} {w w1 w2 : World} (h : KeepI e Y w w1) (h2 : KeepI e Y w1 w2) : KeepI e Y w w2 := fun k cells hk hc => h2 k cells hk (h k cells hk hc)
theorem KeepI.of_below {e : Nat} {Y : Nat → Prop} {w w1 : World} (h : Below w.heap.size w w1) : KeepI e Y w w1 := fun k cells _ hc => (h.block k (lt_of_cells hc)).trans hc
theorem KeepI.R {α : Type} {d : Kd α} {e : Nat} {Y : Nat → Prop} {w w1 : World} {base : Nat} {v : Value} {xs : List α} (hk : KeepI e Y w w1) (hE : d.E = []) (h : Kd.R d e w base (fun k => ¬ Y k) v xs) : Kd.R d e w1 base (fun k => ¬ Y k) v xs :=
  Kd.R_mono (Kd.R_move (Kd.R_bound h) (fun k hk' => by
    obtain ⟨h1, _, _, q, hq, cells, hc⟩ := hk'
    rw [hE] at hq
    have : q = e := by simpa using hq
    subst this
    rw [hk k cells h1 hc, hc])) (fun _ h => h.1)
/-- What such a search asks of the function that it calls: its state stands whatever is made beside it; a call is handed a row that is younger than the state and leaves all rows as they are. -/
structure EachR (P : Program) {σ : Type} (e base : Nat) (Y : Nat → Prop) (fid : FuncId) (caps : Array Value) (each : σ → List Int → Option (σ × Bool)) (I : σ → World → Prop) : Prop where
  fn : ∃ fn, P.funcs[fid]? = some fn ∧ (fn.name == "runtime.NumGoroutine") = false ∧ fn.body.isSome = true
  stable : ∀ s w w', I s w → Below w.heap.size w w' → I s w'
  fresh : ∀ s w k, I s w → w.heap.size ≤ k → ¬ Y k
  call : ∀ s row A c w0 w s' b, I s w0 → base ≤ w0.heap.size → Below w0.heap.size w0 w → Kd.R (Kd.int .i64) e w w0.heap.size (fun k => ¬ Y k) (.slice A row.length c) row → row.length ≤ 1000 → each s row = some (s', b) → Calls P fid (#[.slice A row.length c] ++ caps) w fun o w' => o = .returned (.bool b) ∧ I s' w' ∧ Below base w w' ∧ KeepI e Y w w'
section
variable {P : Program} {ops : Array Oper} {Q : Exit → Act → World → Prop}
/-- A call of a function value that lies in a place. -/
theorem goesF_ {rest : List Oper} {oi : Oper} {a : Act} {w : World} (N : Option Tmp) (hd : oi.dst = N) (hg : oi.guard = none) {f : FuncId} {fn : Func} {p : Tmp} {xs : Array Operand} {ts : Array TypeId} {caps : Array Value} (hf : P.funcs[f]? = some fn) (hname : (fn.name == "runtime.NumGoroutine") = false) (hb : fn.body.isSome = true) (args : Array Value)
    (hop : oi.op = .call { callee := .value (.tmp p), args := xs, argTypes := ts }) (hv : a.eval (.tmp p) = .func (.func f) #[] caps) (hargs : xs.map a.eval = args)
    (h : Calls P f (args ++ caps) w fun e w' => ∃ v, e = .returned v ∧ wpList P ops Q rest (a.put N v) w') : wpList P ops Q (oi :: rest) a w := by
  refine wpList_plain hg fun K hK => ?_
  have he := enters_ hf hname hb (args ++ caps) w
  have hrun : (execOp a.eval oi).run P w = .ok (.enter f (args ++ caps)) w := by
    unfold execOp
    simp [hop, resolve, Deferred.ofValue, invoke, hv, hargs, he]
  unfold Oper.wp
  rw [hrun, Oper.upon_enter]
  refine h.mono fun e w'' hh => ?_
  obtain ⟨v, rfl, hk⟩ := hh
  subst hd
  exact hK _ _ hk
theorem gate_fval {o : Oper} {rest : List Oper} {a : Act} {W : World} {p : Tmp} {xs : Array Operand} {ts : Array TypeId} (_ho : o.op = .call { callee := .value (.tmp p), args := xs, argTypes := ts }) (h : wpList P ops Q (o :: rest) a W) : wpList P ops Q (o :: rest) a W := h
end
/-! #### a part of a function's body, for the walks that are split -/
def codeAt : List Nat → Code → Code
  | [], c => c
  | 0 :: p, .seq a _ => codeAt p a
  | 1 :: p, .seq _ b => codeAt p b
  | 0 :: p, .cond _ a _ => codeAt p a
  | 1 :: p, .cond _ _ b => codeAt p b
  | 0 :: p, .block _ b => codeAt p b
  | 0 :: p, .loop b => codeAt p b
  | _ :: _, c => c
def bodyAt (f : Func) : Code := f.body.getD .skip
end Go.Proofs.Ytofjndbpndpjjaa.Fn
namespace Go.Proofs.Ytofjndbpndpjjaa.Fn
open Go.RowKit Go.Proofs.YtofjndbpndpjjaaW.PrintWords Go.Proofs.YtofjndbpndpjjaaW.PrintLast Go.Proofs.YtofjndbpndpjjaaW.PrintMore
attribute [local go_sem] max2_int min2_int max_two min_two max_three min_three max_four min_four   -- for this text's walks alone
set_option linter.unusedVariables false
set_option linter.unusedSimpArgs false



def errW : Option Int → Value
  | none => .nilIface
  | some c => .iface 0 (.int .i64 c)
theorem errW_none : errW none = .nilIface := rfl
theorem errW_some (c : Int) : errW (some c) = .iface 0 (.int .i64 c) := rfl

theorem info3 : (Try.prog.info? 3).map (fun i => (i.zero, i.size, i.bytes)) = some (some (.int .i64 0), 1, 8) := by kernel_rfl
theorem info24 : (Try.prog.info? 24).map (fun i => (i.zero, i.size, i.bytes)) = some (some (.slice none 0 0), 1, 24) := by kernel_rfl
-- the values' own types
def rd_L2 (xs : List (List Int)) (i : Int) : (List Int) := xs.getD i.toNat ([] : List Int)
theorem at_L2 {w : World} {A : Option Addr} {n : Nat} {xs : List (List Int)} (h : Kd.C (Kd.slice 3 (Kd.int .i64)) w A n xs) (i : Int) (h0 : 0 ≤ i) (h1 : i < n) : ∃ ad A0 c0, A = some ad ∧ w.cell? (ad.add i.toNat) = some (.slice A0 (rd_L2 xs i).length c0) ∧ (rd_L2 xs i).length ≤ c0 ∧ (Kd.int .i64).C w A0 (rd_L2 xs i).length (rd_L2 xs i) := by
  obtain ⟨ad, c, e, _, hK, hc0⟩ := Kd.C_get h ([] : List Int) i h0 h1
  have hc : ∀ j u, c[j]? = some u → w.cell? (ad.add (i.toNat * 1 + j)) = some u := hc0
  obtain ⟨A0, c0, rfl, l0, g0⟩ := hK
  exact ⟨ad, A0, c0, e, by have hq := hc 0 _ rfl; rwa [Nat.mul_one, Nat.add_zero] at hq, l0, g0⟩

end Go.Proofs.Ytofjndbpndpjjaa.Fn
namespace Go.Proofs.Ytofjndbpndpjjaa.Fn
open Go.RowKit Go.Proofs.YtofjndbpndpjjaaW.PrintWords Go.Proofs.YtofjndbpndpjjaaW.PrintLast Go.Proofs.YtofjndbpndpjjaaW.PrintMore
attribute [local go_sem] max2_int min2_int max_two min_two max_three min_three max_four min_four   -- for this text's walks alone
set_option linter.unusedVariables false
set_option linter.unusedSimpArgs false

/-- A state of type 58 at block g of W; what its slices lead to came in by w0. -/
def IsS58 (w0 W : World) (g : Nat) (f0 : List Int) (f1 : Int) (f2 : Int) : Prop := ∃ A0 c0, W.heap[g]? = some (.cells #[.slice A0 f0.length c0, .int .i64 f1, .int .u64 f2] 58 (0, 0)) ∧ w0.heap.size ≤ g ∧ Kd.C (Kd.int .u8) w0 A0 f0.length f0
theorem IsS58.grown {w0 W : World} {g : Nat} {f0 : List Int} {f1 : Int} {f2 : Int} {W1 : World} {row : Option Nat} (h : IsS58 w0 W g f0 f1 f2) (hw : W.grownBy W1 row) (hne : some g ≠ row) : IsS58 w0 W1 g f0 f1 f2 := by
  obtain ⟨A0, c0, hb, hg, hr0⟩ := h
  exact ⟨A0, c0, blk_grown hb hw hne, hg, hr0⟩
theorem IsS58.own_neN {w0 W : World} {g : Nat} {f0 : List Int} {f1 : Int} {f2 : Int} {α : Type} {d : Kd α} {e : Nat} {base : Nat} {ok : Nat → Prop} {v : Value} {xs : List α} (h : IsS58 w0 W g f0 f1 f2) (ho : Kd.N d e W base ok v xs) (ht : e ≠ 58) : some g ≠ v.ownBlock := by
  obtain ⟨A0, c0, hb, hg, hr0⟩ := h
  exact Kd.N_ne ho hb ht
theorem IsS58.fresh {w0 W : World} {g : Nat} {f0 : List Int} {f1 : Int} {f2 : Int} (h : IsS58 w0 W g f0 f1 f2) : ∀ k, W.heap.size ≤ k → k ≠ g := by
  obtain ⟨A0, c0, hb, hg, hr0⟩ := h
  exact Kd.freshB hb
theorem IsS58.kept {w0 W : World} {g : Nat} {f0 : List Int} {f1 : Int} {f2 : Int} {W1 : World} {S : Nat → Prop} (h : IsS58 w0 W g f0 f1 f2) (hk : Kept W W1 S) (hne : ¬ S g) : IsS58 w0 W1 g f0 f1 f2 := by
  obtain ⟨A0, c0, hb, hg, hr0⟩ := h
  exact ⟨A0, c0, blk_kept hb hk hne, hg, hr0⟩
theorem IsS58.below {w0 W : World} {g : Nat} {f0 : List Int} {f1 : Int} {f2 : Int} {W1 : World} (h : IsS58 w0 W g f0 f1 f2) (hw : Below W.heap.size W W1) : IsS58 w0 W1 g f0 f1 f2 := h.grown (grown_of_below hw none) (by simp)
theorem IsS58.up {w0 W : World} {g : Nat} {f0 : List Int} {f1 : Int} {f2 : Int} {W1 W2 : World} (h : Aside0 (IsS58 w0 W g f0 f1 f2)) (hb : Below W1.heap.size W1 W2) (hm : Below W.heap.size W W1 := by (with_reducible repeat (first | exact Below.refl _ _ | apply below_alloc | apply pw_below_drewN | apply below_drew1))) : Aside0 (IsS58 w0 W2 g f0 f1 f2) := ⟨IsS58.below h.out (hm.trans (hb.mono hm.size))⟩
theorem IsS58.at {w0 W : World} {g : Nat} {f0 : List Int} {f1 : Int} {f2 : Int} {W1 : World} (h : Aside0 (IsS58 w0 W g f0 f1 f2)) (hm : Below W.heap.size W W1 := by (with_reducible repeat (first | exact Below.refl _ _ | apply below_alloc | apply pw_below_drewN | apply below_drew1))) : IsS58 w0 W1 g f0 f1 f2 := IsS58.below h.out hm
theorem IsS58.alloc {w0 W : World} {g : Nat} {f0 : List Int} {f1 : Int} {f2 : Int} (h : IsS58 w0 W g f0 f1 f2) (o : Obj) : IsS58 w0 (W.alloc o) g f0 f1 f2 := h.below (below_alloc (Below.refl _ _) o)
theorem IsS58.drewN {w0 W : World} {g : Nat} {f0 : List Int} {f1 : Int} {f2 : Int} (h : IsS58 w0 W g f0 f1 f2) (m : Nat) : IsS58 w0 (W.drewN m) g f0 f1 f2 := h
theorem IsS58.drew {w0 W : World} {g : Nat} {f0 : List Int} {f1 : Int} {f2 : Int} (h : IsS58 w0 W g f0 f1 f2) : IsS58 w0 W.drew g f0 f1 f2 := h
theorem IsS58.at_ {w0 W : World} {g : Nat} {f0 : List Int} {f1 : Int} {f2 : Int} {w' : World} {m : Nat} (hq : W.drewN m = w') (h : IsS58 w0 W g f0 f1 f2) : IsS58 w0 w' g f0 f1 f2 := by subst hq; exact IsS58.drewN h m
theorem IsS58.apart {w0 W : World} {g : Nat} {f0 : List Int} {f1 : Int} {f2 : Int} {α : Type} {d : Kd α} {e : Nat} {base : Nat} {ok : Nat → Prop} {v : Value} {xs : List α} (h : IsS58 w0 W g f0 f1 f2) (ho : d.R e W base ok v xs) (ht : ∀ q, q ∈ e :: d.E → q ≠ 58) : d.R e W base (fun k => ok k ∧ k ≠ g) v xs := by
  obtain ⟨A0, c0, hb, hg, hr0⟩ := h
  exact Kd.R_types ho hb ht
theorem IsS58.keepR {w0 W : World} {g : Nat} {f0 : List Int} {f1 : Int} {f2 : Int} {α : Type} {d : Kd α} {e : Nat} {base : Nat} {ok : Nat → Prop} {v : Value} {xs : List α} {Wr W1 W2 : World} (hI : Aside0 (IsS58 w0 W g f0 f1 f2)) (ho : Aside0 (Kd.R d e Wr base ok v xs)) (hk : KeepBut W1 W2 g none) (hm : Below W.heap.size W W1 := by (with_reducible repeat (first | exact Below.refl _ _ | apply below_alloc | apply pw_below_drewN | apply below_drew1))) (hn : Below Wr.heap.size Wr W1 := by (with_reducible repeat (first | exact Below.refl _ _ | apply below_alloc | apply pw_below_drewN | apply below_drew1))) (hd : ∀ q, q ∈ e :: d.E → q ≠ 58 := by decide) : Aside0 (Kd.R d e W2 base ok v xs) :=
  ⟨Kd.R_mono (Kd.R_keep (IsS58.apart (IsS58.below hI.out hm) (Kd.R_below ho.out hn) hd) hk (fun _ h => h.2)) (fun _ h => h.1)⟩
theorem IsS58.own_ne {w0 W : World} {g : Nat} {f0 : List Int} {f1 : Int} {f2 : Int} {α : Type} {d : Kd α} {e : Nat} {base : Nat} {ok : Nat → Prop} {v : Value} {xs : List α} (h : IsS58 w0 W g f0 f1 f2) (ho : d.R e W base ok v xs) (ht : e ≠ 58) : some g ≠ v.ownBlock := by
  obtain ⟨A0, c0, hb, hg, hr0⟩ := h
  exact Kd.R_ne ho hb ht
theorem IsS58.apartQ {w0 W : World} {g : Nat} {f0 : List Int} {f1 : Int} {f2 : Int} {α : Type} {d : Kd α} {e : Nat} {base : Nat} {ok : Nat → Prop} {v : Value} {xs : List α} (h : IsS58 w0 W g f0 f1 f2) (ho : d.Q e W base ok v xs) (ht : ∀ q, q ∈ e :: d.E → q ≠ 58) : d.Q e W base (fun k => ok k ∧ k ≠ g) v xs := by
  obtain ⟨A0, c0, hb, hg, hr0⟩ := h
  exact Kd.Q_types ho hb ht
theorem IsS58.own_neQ {w0 W : World} {g : Nat} {f0 : List Int} {f1 : Int} {f2 : Int} {α : Type} {d : Kd α} {e : Nat} {base : Nat} {ok : Nat → Prop} {v : Value} {xs : List α} (h : IsS58 w0 W g f0 f1 f2) (ho : d.Q e W base ok v xs) (ht : e ≠ 58) : some g ≠ v.ownBlock := by
  obtain ⟨A0, c0, hb, hg, hr0⟩ := h
  exact Kd.Q_ne ho hb ht
theorem IsS58.apartS {w0 W : World} {g : Nat} {f0 : List Int} {f1 : Int} {f2 : Int} {α : Type} {d : Kd α} {e : Nat} {base : Nat} {ok : Nat → Prop} {v : Value} {xs : List α} (h : IsS58 w0 W g f0 f1 f2) (ho : d.S e W base ok v xs) (ht : ∀ q, q ∈ e :: d.E → q ≠ 58) : d.S e W base (fun k => ok k ∧ k ≠ g) v xs := by
  obtain ⟨A0, c0, hb, hg, hr0⟩ := h
  exact Kd.S_types ho hb ht
theorem IsS58.keepS {w0 W : World} {g : Nat} {f0 : List Int} {f1 : Int} {f2 : Int} {α : Type} {d : Kd α} {e : Nat} {base : Nat} {ok : Nat → Prop} {v : Value} {xs : List α} {Wr W1 W2 : World} (hI : Aside0 (IsS58 w0 W g f0 f1 f2)) (ho : Aside0 (Kd.S d e Wr base ok v xs)) (hk : KeepBut W1 W2 g none) (hm : Below W.heap.size W W1 := by (with_reducible repeat (first | exact Below.refl _ _ | apply below_alloc | apply pw_below_drewN | apply below_drew1))) (hn : Below Wr.heap.size Wr W1 := by (with_reducible repeat (first | exact Below.refl _ _ | apply below_alloc | apply pw_below_drewN | apply below_drew1))) (hd : ∀ q, q ∈ e :: d.E → q ≠ 58 := by decide) : Aside0 (Kd.S d e W2 base ok v xs) :=
  ⟨Kd.S_mono (Kd.S_keep (IsS58.apartS (IsS58.below hI.out hm) (Kd.S_below ho.out hn) hd) hk (fun _ h => h.2)) (fun _ h => h.1)⟩
theorem IsS58.own_neS {w0 W : World} {g : Nat} {f0 : List Int} {f1 : Int} {f2 : Int} {α : Type} {d : Kd α} {e : Nat} {base : Nat} {ok : Nat → Prop} {v : Value} {xs : List α} (h : IsS58 w0 W g f0 f1 f2) (ho : d.S e W base ok v xs) (ht : e ≠ 58) : some g ≠ v.ownBlock := by
  obtain ⟨A0, c0, hb, hg, hr0⟩ := h
  exact Kd.S_ne ho hb ht
theorem IsS58.lt {w0 W : World} {g : Nat} {f0 : List Int} {f1 : Int} {f2 : Int} (h : IsS58 w0 W g f0 f1 f2) : g < W.heap.size := by
  obtain ⟨A0, c0, hb, hg, hr0⟩ := h
  exact blk_lt hb
theorem IsS58.ge {w0 W : World} {g : Nat} {f0 : List Int} {f1 : Int} {f2 : Int} (h : IsS58 w0 W g f0 f1 f2) : w0.heap.size ≤ g := by
  obtain ⟨A0, c0, hb, hg, hr0⟩ := h
  exact hg
theorem IsS58.ne_blk {w0 W : World} {g : Nat} {f0 : List Int} {f1 : Int} {f2 : Int} {a : Nat} {cs : Array Value} {t : TypeId} {fr : Nat × Nat} (h : IsS58 w0 W g f0 f1 f2) (hb2 : W.heap[a]? = some (.cells cs t fr)) (ht : t ≠ 58) : g ≠ a := by
  obtain ⟨A0, c0, hb, hg, hr0⟩ := h
  rintro rfl
  rw [hb] at hb2
  injection hb2 with hb2
  injection hb2 with _ ht2
  exact ht ht2.symm
theorem IsS58.far {w0 W : World} {g : Nat} {f0 : List Int} {f1 : Int} {f2 : Int} {p : Addr} (h : IsS58 w0 W g f0 f1 f2) (hne : g ≠ p.block) (u : Value) : IsS58 w0 (W.setCell p u) g f0 f1 f2 := by
  obtain ⟨A0, c0, hb, hg, hr0⟩ := h
  exact ⟨A0, c0, blk_far hb hne u, hg, hr0⟩
theorem cellS58_0 {W : World} {g : Nat} {A0 : Option Addr} {c0 : Nat} {f0 : List Int} {f1 : Int} {f2 : Int} (h : W.heap[g]? = some (.cells #[.slice A0 f0.length c0, .int .i64 f1, .int .u64 f2] 58 (0, 0))) : W.cell? ⟨g, 0, none⟩ = some (.slice A0 f0.length c0) := (blk_cell h 0).trans rfl
theorem cellS58_1 {W : World} {g : Nat} {A0 : Option Addr} {c0 : Nat} {f0 : List Int} {f1 : Int} {f2 : Int} (h : W.heap[g]? = some (.cells #[.slice A0 f0.length c0, .int .i64 f1, .int .u64 f2] 58 (0, 0))) : W.cell? ⟨g, 1, none⟩ = some (.int .i64 f1) := (blk_cell h 1).trans rfl
theorem IsS58.set_1 {w0 W : World} {g : Nat} {f0 : List Int} {f1 : Int} {f2 : Int} (h : IsS58 w0 W g f0 f1 f2) (x : Int) : IsS58 w0 (W.setCell ⟨g, 1, none⟩ (.int .i64 x)) g f0 x f2 := by
  obtain ⟨A0, c0, hb, hg, hr0⟩ := h
  exact ⟨A0, c0, by simpa using blk_set hb 1 (.int .i64 x), hg, hr0⟩
theorem cellS58_2 {W : World} {g : Nat} {A0 : Option Addr} {c0 : Nat} {f0 : List Int} {f1 : Int} {f2 : Int} (h : W.heap[g]? = some (.cells #[.slice A0 f0.length c0, .int .i64 f1, .int .u64 f2] 58 (0, 0))) : W.cell? ⟨g, 2, none⟩ = some (.int .u64 f2) := (blk_cell h 2).trans rfl
theorem IsS58.set_2 {w0 W : World} {g : Nat} {f0 : List Int} {f1 : Int} {f2 : Int} (h : IsS58 w0 W g f0 f1 f2) (x : Int) : IsS58 w0 (W.setCell ⟨g, 2, none⟩ (.int .u64 x)) g f0 f1 x := by
  obtain ⟨A0, c0, hb, hg, hr0⟩ := h
  exact ⟨A0, c0, by simpa using blk_set hb 2 (.int .u64 x), hg, hr0⟩
theorem IsS58.new (w0 W : World) (A0 : Option Addr) (c0 : Nat) (f0 : List Int) (f1 : Int) (f2 : Int) (hB : Below w0.heap.size w0 W) (hr0 : Kd.C (Kd.int .u8) w0 A0 f0.length f0) : IsS58 w0 (W.alloc (.cells #[.slice A0 f0.length c0, .int .i64 f1, .int .u64 f2] 58)) W.heap.size f0 f1 f2 := ⟨A0, c0, by simpa using heap_alloc_new W _, hB.size, hr0⟩

/-! ### spec_l1Cur_next: function 101 -/
def spec_l1Cur_next.f (s0_0 : List Int) (s0_1 : Int) (s0_2 : Int) : Option (Int × Int × Int) := if s0_1 < (s0_0.length : Int) then (if 0 ≤ s0_1 then (if (wrap64 (s0_1 + 1)) ≤ (s0_0.length : Int) then (some (wrap64 (rd s0_0 s0_1), wrap64 (s0_1 + 1), IntKind.u64.wrap ((IntKind.u64.wrap ((IntKind.u64.wrap (s0_2 * 6364136223846793005)) + (IntKind.u64.wrap (wrap64 (rd s0_0 s0_1))))) + 1442695040888963407))) else (some (wrap64 (Go.bits .and .u64 ((IntKind.u64.wrap ((IntKind.u64.wrap ((IntKind.u64.wrap (s0_2 * 6364136223846793005)) + (IntKind.u64.wrap (wrap64 (rd s0_0 s0_1))))) + 1442695040888963407)) / 1099511627776) 255), wrap64 (s0_1 + 1), IntKind.u64.wrap ((IntKind.u64.wrap ((IntKind.u64.wrap (s0_2 * 6364136223846793005)) + (IntKind.u64.wrap (wrap64 (rd s0_0 s0_1))))) + 1442695040888963407)))) else (none)) else (if (wrap64 (s0_1 + 1)) ≤ (s0_0.length : Int) then (some (0, wrap64 (s0_1 + 1), IntKind.u64.wrap ((IntKind.u64.wrap (IntKind.u64.wrap (s0_2 * 6364136223846793005))) + 1442695040888963407))) else (some (wrap64 (Go.bits .and .u64 ((IntKind.u64.wrap ((IntKind.u64.wrap (IntKind.u64.wrap (s0_2 * 6364136223846793005))) + 1442695040888963407)) / 1099511627776) 255), wrap64 (s0_1 + 1), IntKind.u64.wrap ((IntKind.u64.wrap (IntKind.u64.wrap (s0_2 * 6364136223846793005))) + 1442695040888963407))))
set_option maxHeartbeats 8000000 in
set_option maxRecDepth 100000 in
theorem spec_l1Cur_next.calls (g : Nat) (s0_0 : List Int) (s0_1 : Int) (s0_2 : Int) (r1 : Int) (r2 : Int) (r3 : Int) (w0 w : World) (hI : IsS58 w0 w g s0_0 s0_1 s0_2) (hB : Below w0.heap.size w0 w) (h : spec_l1Cur_next.f s0_0 s0_1 s0_2 = some (r1, r2, r3)) :
    Calls Try.prog 101 #[.pointer (some ⟨g, 0, none⟩)] w fun e w' => e = .returned (.int .i64 r1) ∧ IsS58 w0 w' g s0_0 r2 r3 ∧ Below w0.heap.size w0 w' ∧ KeepBut w w' g none := by
  have HI0 := Aside0.mk hI
  have HK := Aside0.mk (KeepBut.refl w g none)
  have HL := Aside0.mk hB.size
  clear hI
  have HW0 := Aside0.mk hB.size
  have HB := Aside0.mk hB
  clear hB
  have H : (if s0_1 < (s0_0.length : Int) then (if 0 ≤ s0_1 then (if (wrap64 (s0_1 + 1)) ≤ (s0_0.length : Int) then (some (wrap64 (rd s0_0 s0_1), wrap64 (s0_1 + 1), IntKind.u64.wrap ((IntKind.u64.wrap ((IntKind.u64.wrap (s0_2 * 6364136223846793005)) + (IntKind.u64.wrap (wrap64 (rd s0_0 s0_1))))) + 1442695040888963407))) else (some (wrap64 (Go.bits .and .u64 ((IntKind.u64.wrap ((IntKind.u64.wrap ((IntKind.u64.wrap (s0_2 * 6364136223846793005)) + (IntKind.u64.wrap (wrap64 (rd s0_0 s0_1))))) + 1442695040888963407)) / 1099511627776) 255), wrap64 (s0_1 + 1), IntKind.u64.wrap ((IntKind.u64.wrap ((IntKind.u64.wrap (s0_2 * 6364136223846793005)) + (IntKind.u64.wrap (wrap64 (rd s0_0 s0_1))))) + 1442695040888963407)))) else (none)) else (if (wrap64 (s0_1 + 1)) ≤ (s0_0.length : Int) then (some (0, wrap64 (s0_1 + 1), IntKind.u64.wrap ((IntKind.u64.wrap (IntKind.u64.wrap (s0_2 * 6364136223846793005))) + 1442695040888963407))) else (some (wrap64 (Go.bits .and .u64 ((IntKind.u64.wrap ((IntKind.u64.wrap (IntKind.u64.wrap (s0_2 * 6364136223846793005))) + 1442695040888963407)) / 1099511627776) 255), wrap64 (s0_1 + 1), IntKind.u64.wrap ((IntKind.u64.wrap (IntKind.u64.wrap (s0_2 * 6364136223846793005))) + 1442695040888963407))))) = some (r1, r2, r3) := h
  clear h
  by_cases c2 : s0_1 < (s0_0.length : Int)
  · rw [if_pos c2] at H
    have c2b0 : decide (s0_1 < (s0_0.length : Int)) = true := decide_eq_true c2
    clear c2
    by_cases c3 : 0 ≤ s0_1
    · rw [if_pos c3] at H
      have c3b0 : decide (0 ≤ s0_1) = true := decide_eq_true c3
      clear c3
      by_cases c4 : (wrap64 (s0_1 + 1)) ≤ (s0_0.length : Int)
      · rw [if_pos c4] at H
        have c4b0 : decide ((wrap64 (s0_1 + 1)) ≤ (s0_0.length : Int)) = true := decide_eq_true c4
        clear c4
        simp only [Option.some.injEq, Prod.mk.injEq] at H
        obtain ⟨rfl, rfl, rfl⟩ := H
        obtain ⟨ASz5_0, cSz5_0, HGz5, hgz5, HSz5_0⟩ := HI0.out
        have hcz5_0 := cellS58_0 HGz5
        have hcz5_1 := cellS58_1 HGz5
        have hcz5_2 := cellS58_2 HGz5
        have hfz5_1 := blk_frozen HGz5 1
        have hfz5_2 := blk_frozen HGz5 2
        clear HGz5 hgz5
        have p115 : 0 ≤ (s0_1 : Int) := of_decide_eq_true (by first | (with_reducible assumption) | assumption)
        have q115 : s0_1 < (s0_0.length : Int) := of_decide_eq_true (by first | (with_reducible assumption) | assumption)
        obtain ⟨ad115, e115, hx115_0⟩ := Kd.at_int HSz5_0 s0_1 p115 q115
        cases e115
        replace hx115_0 := pw_cell_below HB.out hx115_0
        replace p115 := eq_true p115
        replace q115 := eq_true q115
        go_enter Try.func101, Try.ntmps101
        go_wp2
        repeat (go_quiet (fail); try go_wp2)
        go_ret
        exact ⟨by first | rfl | (simp [errW_none, errW_some] <;> rfl) | (simp [*, errW_none, errW_some] <;> rfl), by repeat (first | (with_reducible first | exact HI0.out | apply IsS58.alloc | apply IsS58.drewN | apply IsS58.drew | apply IsS58.set_1 | apply IsS58.set_2) | exact HI0.out), by repeat (first | (with_reducible first | exact HB.out | apply below_alloc | apply pw_below_drewN | apply below_drew1 | refine below_set ?_ (IsS58.ge HI0.out)) | exact HB.out), by repeat (first | (with_reducible first | exact HK.out | apply KeepBut.set_ | apply keep_drewN | apply keep_drew | apply keep_alloc) | exact HK.out)⟩
      · rw [if_neg c4] at H
        have c4b0 : decide ((wrap64 (s0_1 + 1)) ≤ (s0_0.length : Int)) = false := decide_eq_false c4
        clear c4
        simp only [Option.some.injEq, Prod.mk.injEq] at H
        obtain ⟨rfl, rfl, rfl⟩ := H
        obtain ⟨ASz6_0, cSz6_0, HGz6, hgz6, HSz6_0⟩ := HI0.out
        have hcz6_0 := cellS58_0 HGz6
        have hcz6_1 := cellS58_1 HGz6
        have hcz6_2 := cellS58_2 HGz6
        have hfz6_1 := blk_frozen HGz6 1
        have hfz6_2 := blk_frozen HGz6 2
        clear HGz6 hgz6
        have p115 : 0 ≤ (s0_1 : Int) := of_decide_eq_true (by first | (with_reducible assumption) | assumption)
        have q115 : s0_1 < (s0_0.length : Int) := of_decide_eq_true (by first | (with_reducible assumption) | assumption)
        obtain ⟨ad115, e115, hx115_0⟩ := Kd.at_int HSz6_0 s0_1 p115 q115
        cases e115
        replace hx115_0 := pw_cell_below HB.out hx115_0
        replace p115 := eq_true p115
        replace q115 := eq_true q115
        go_enter Try.func101, Try.ntmps101
        go_wp2
        repeat (go_quiet (fail); try go_wp2)
        go_ret
        exact ⟨by first | rfl | (simp [errW_none, errW_some] <;> rfl) | (simp [*, errW_none, errW_some] <;> rfl), by repeat (first | (with_reducible first | exact HI0.out | apply IsS58.alloc | apply IsS58.drewN | apply IsS58.drew | apply IsS58.set_1 | apply IsS58.set_2) | exact HI0.out), by repeat (first | (with_reducible first | exact HB.out | apply below_alloc | apply pw_below_drewN | apply below_drew1 | refine below_set ?_ (IsS58.ge HI0.out)) | exact HB.out), by repeat (first | (with_reducible first | exact HK.out | apply KeepBut.set_ | apply keep_drewN | apply keep_drew | apply keep_alloc) | exact HK.out)⟩
    · rw [if_neg c3] at H
      exact absurd H (by simp)
  · rw [if_neg c2] at H
    have c2b0 : decide (s0_1 < (s0_0.length : Int)) = false := decide_eq_false c2
    clear c2
    by_cases c7 : (wrap64 (s0_1 + 1)) ≤ (s0_0.length : Int)
    · rw [if_pos c7] at H
      have c7b0 : decide ((wrap64 (s0_1 + 1)) ≤ (s0_0.length : Int)) = true := decide_eq_true c7
      clear c7
      simp only [Option.some.injEq, Prod.mk.injEq] at H
      obtain ⟨rfl, rfl, rfl⟩ := H
      obtain ⟨ASz8_0, cSz8_0, HGz8, hgz8, HSz8_0⟩ := HI0.out
      have hcz8_0 := cellS58_0 HGz8
      have hcz8_1 := cellS58_1 HGz8
      have hcz8_2 := cellS58_2 HGz8
      have hfz8_1 := blk_frozen HGz8 1
      have hfz8_2 := blk_frozen HGz8 2
      clear HGz8 hgz8
      go_enter Try.func101, Try.ntmps101
      go_wp2
      repeat (go_quiet (fail); try go_wp2)
      go_ret
      exact ⟨by first | rfl | (simp [errW_none, errW_some] <;> rfl) | (simp [*, errW_none, errW_some] <;> rfl), by repeat (first | (with_reducible first | exact HI0.out | apply IsS58.alloc | apply IsS58.drewN | apply IsS58.drew | apply IsS58.set_1 | apply IsS58.set_2) | exact HI0.out), by repeat (first | (with_reducible first | exact HB.out | apply below_alloc | apply pw_below_drewN | apply below_drew1 | refine below_set ?_ (IsS58.ge HI0.out)) | exact HB.out), by repeat (first | (with_reducible first | exact HK.out | apply KeepBut.set_ | apply keep_drewN | apply keep_drew | apply keep_alloc) | exact HK.out)⟩
    · rw [if_neg c7] at H
      have c7b0 : decide ((wrap64 (s0_1 + 1)) ≤ (s0_0.length : Int)) = false := decide_eq_false c7
      clear c7
      simp only [Option.some.injEq, Prod.mk.injEq] at H
      obtain ⟨rfl, rfl, rfl⟩ := H
      obtain ⟨ASz9_0, cSz9_0, HGz9, hgz9, HSz9_0⟩ := HI0.out
      have hcz9_0 := cellS58_0 HGz9
      have hcz9_1 := cellS58_1 HGz9
      have hcz9_2 := cellS58_2 HGz9
      have hfz9_1 := blk_frozen HGz9 1
      have hfz9_2 := blk_frozen HGz9 2
      clear HGz9 hgz9
      go_enter Try.func101, Try.ntmps101
      go_wp2
      repeat (go_quiet (fail); try go_wp2)
      go_ret
      exact ⟨by first | rfl | (simp [errW_none, errW_some] <;> rfl) | (simp [*, errW_none, errW_some] <;> rfl), by repeat (first | (with_reducible first | exact HI0.out | apply IsS58.alloc | apply IsS58.drewN | apply IsS58.drew | apply IsS58.set_1 | apply IsS58.set_2) | exact HI0.out), by repeat (first | (with_reducible first | exact HB.out | apply below_alloc | apply pw_below_drewN | apply below_drew1 | refine below_set ?_ (IsS58.ge HI0.out)) | exact HB.out), by repeat (first | (with_reducible first | exact HK.out | apply KeepBut.set_ | apply keep_drewN | apply keep_drew | apply keep_alloc) | exact HK.out)⟩


end Go.Proofs.Ytofjndbpndpjjaa.Fn
namespace Go.Proofs.Ytofjndbpndpjjaa.Fn
open Go.RowKit Go.Proofs.YtofjndbpndpjjaaW.PrintWords Go.Proofs.YtofjndbpndpjjaaW.PrintLast Go.Proofs.YtofjndbpndpjjaaW.PrintMore
attribute [local go_sem] max2_int min2_int max_two min_two max_three min_three max_four min_four   -- for this text's walks alone
set_option linter.unusedVariables false
set_option linter.unusedSimpArgs false

/-! ### spec_l1Cur_pick: function 78 -/
def spec_l1Cur_pick.f (s0_0 : List Int) (s0_1 : Int) (s0_2 : Int) (a1 : Int) : Option (Int × Int × Int) := if a1 ≤ 1 then (some (0, s0_1, s0_2)) else ((spec_l1Cur_next.f s0_0 s0_1 s0_2).bind fun bt116 => (if a1 > 200 then ((spec_l1Cur_next.f s0_0 bt116.2.1 bt116.2.2).bind fun bt119 => (if a1 = 0 then (none) else (some (Int.tmod (wrap64 ((wrap64 (bt116.1 * 256)) + bt119.1)) a1, bt119.2.1, bt119.2.2)))) else (if a1 = 0 then (none) else (some (Int.tmod bt116.1 a1, bt116.2.1, bt116.2.2)))))
set_option maxHeartbeats 8000000 in
set_option maxRecDepth 100000 in
theorem spec_l1Cur_pick.calls (g : Nat) (s0_0 : List Int) (s0_1 : Int) (s0_2 : Int) (a1 : Int) (r1 : Int) (r2 : Int) (r3 : Int) (w0 w : World) (hI : IsS58 w0 w g s0_0 s0_1 s0_2) (hB : Below w0.heap.size w0 w) (h : spec_l1Cur_pick.f s0_0 s0_1 s0_2 a1 = some (r1, r2, r3)) :
  Calls Try.prog 78 #[.pointer (some ⟨g, 0, none⟩), .int .i64 a1] w fun e w' => e = .returned (.int .i64 r1) ∧ IsS58 w0 w' g s0_0 r2 r3 ∧ Below w0.heap.size w0 w' ∧ KeepBut w w' g none := by
 have HI0 := Aside0.mk hI
 have HK := Aside0.mk (KeepBut.refl w g none)
 have HL := Aside0.mk hB.size
 clear hI
 have HW0 := Aside0.mk hB.size
 have HB := Aside0.mk hB
 clear hB
 have H := h
 unfold spec_l1Cur_pick.f at H
 clear h
 by_cases c3 : a1 ≤ 1
 ·rw [if_pos c3] at H
  have c3b0 : decide (a1 ≤ 1) = true := decide_eq_true c3
  clear c3
  simp only [Option.some.injEq, Prod.mk.injEq] at H
  obtain ⟨rfl, rfl, rfl⟩ := H
  go_enter Try.func78, Try.ntmps78
  go_wp2
  go_ret
  exact ⟨eqr, IsS58.at HI0, atB HB, atK HK⟩
 ·rw [if_neg c3] at H
  have c3b0 : decide (a1 ≤ 1) = false := decide_eq_false c3
  clear c3
  replace H := Option.bind_eq_some_iff.mp H
  obtain ⟨⟨t116, t117, t118⟩, A40, H⟩ := H
  replace H : (if a1 > 200 then ((spec_l1Cur_next.f s0_0 t117 t118).bind fun bt119 => (if a1 = 0 then (none) else (some (Int.tmod (wrap64 ((wrap64 (t116 * 256)) + bt119.1)) a1, bt119.2.1, bt119.2.2)))) else (if a1 = 0 then (none) else (some (Int.tmod t116 a1, t117, t118)))) = some (r1, r2, r3) := H
  have A4 := Aside0.mk A40
  clear A40
  by_cases c5 : a1 > 200
  ·rw [if_pos c5] at H
   have c5b0 : decide (200 < a1) = true := decide_eq_true c5
   clear c5
   replace H := Option.bind_eq_some_iff.mp H
   obtain ⟨⟨t119, t120, t121⟩, A60, H⟩ := H
   replace H : (if a1 = 0 then (none) else (some (Int.tmod (wrap64 ((wrap64 (t116 * 256)) + t119)) a1, t120, t121))) = some (r1, r2, r3) := H
   have A6 := Aside0.mk A60
   clear A60
   by_cases c7 : a1 = 0
   ·rw [if_pos c7] at H
    exact absurd H (by simp)
   ·rw [if_neg c7] at H
    have c7b0 : (a1 == 0) = false := beq_eq_false_iff_ne.mpr c7
    have c7b1 : (a1 != 0) = true := bne_iff_ne.mpr c7
    simp only [Option.some.injEq, Prod.mk.injEq] at H
    obtain ⟨rfl, rfl, rfl⟩ := H
    go_enter Try.func78, Try.ntmps78
    go_wp2_with (first | ((with_reducible refine gate_callee (f := 101) rfl ?_); refine goesA (some 9) Try.func101 #[.pointer (some ⟨g, 0, none⟩)] ?_; (with_reducible refine (spec_l1Cur_next.calls g s0_0 s0_1 s0_2 t116 t117 t118 w0 _ ?side1 ?side2 A4.out).mono ?_); (case side1 => exact IsS58.at HI0); (case side2 => exact atB HB); rintro e w8 ⟨rfl, hi, hb, hk⟩; refine ⟨_, rfl, ?_⟩; replace HK := upK HK hk; replace HB := Aside0.mk (hb); replace HI0 := Aside0.mk (hi); (try clear hb); (try clear hb2); (try clear hk); (try clear hi)) | ((with_reducible refine gate_callee (f := 101) rfl ?_); refine goesA (some 15) Try.func101 #[.pointer (some ⟨g, 0, none⟩)] ?_; (with_reducible refine (spec_l1Cur_next.calls g s0_0 t117 t118 t119 t120 t121 w0 _ ?side1 ?side2 A6.out).mono ?_); (case side1 => exact IsS58.at HI0); (case side2 => exact atB HB); rintro e w9 ⟨rfl, hi, hb, hk⟩; refine ⟨_, rfl, ?_⟩; replace HK := upK HK hk; replace HB := Aside0.mk (hb); replace HI0 := Aside0.mk (hi); (try clear hb); (try clear hb2); (try clear hk); (try clear hi)))
    go_ret
    exact ⟨eqr, IsS58.at HI0, atB HB, atK HK⟩
  ·rw [if_neg c5] at H
   have c5b0 : decide (200 < a1) = false := decide_eq_false c5
   clear c5
   by_cases c10 : a1 = 0
   ·rw [if_pos c10] at H
    exact absurd H (by simp)
   ·rw [if_neg c10] at H
    have c10b0 : (a1 == 0) = false := beq_eq_false_iff_ne.mpr c10
    have c10b1 : (a1 != 0) = true := bne_iff_ne.mpr c10
    simp only [Option.some.injEq, Prod.mk.injEq] at H
    obtain ⟨rfl, rfl, rfl⟩ := H
    go_enter Try.func78, Try.ntmps78
    go_wp2_with (first | ((with_reducible refine gate_callee (f := 101) rfl ?_); refine goesA (some 9) Try.func101 #[.pointer (some ⟨g, 0, none⟩)] ?_; (with_reducible refine (spec_l1Cur_next.calls g s0_0 s0_1 s0_2 t116 t117 t118 w0 _ ?side1 ?side2 A4.out).mono ?_); (case side1 => exact IsS58.at HI0); (case side2 => exact atB HB); rintro e w11 ⟨rfl, hi, hb, hk⟩; refine ⟨_, rfl, ?_⟩; replace HK := upK HK hk; replace HB := Aside0.mk (hb); replace HI0 := Aside0.mk (hi); (try clear hb); (try clear hb2); (try clear hk); (try clear hi)))
    go_ret
    exact ⟨eqr, IsS58.at HI0, atB HB, atK HK⟩


end Go.Proofs.Ytofjndbpndpjjaa.Fn
namespace Go.Proofs.Ytofjndbpndpjjaa.Fn
open Go.RowKit Go.Proofs.YtofjndbpndpjjaaW.PrintWords Go.Proofs.YtofjndbpndpjjaaW.PrintLast Go.Proofs.YtofjndbpndpjjaaW.PrintMore
attribute [local go_sem] max2_int min2_int max_two min_two max_three min_three max_four min_four   -- for this text's walks alone
set_option linter.unusedVariables false
set_option linter.unusedSimpArgs false

/-! ### laws_big: function 5 -/
def laws_big.f (l0 : List Int) (l1 : List Int) : Option (Bool) := if (l0.length : Int) > 1048576 then (some true) else (some (decide ((l1.length : Int) > (wrap64 (1048576 - (l0.length : Int))))))
set_option maxHeartbeats 8000000 in
set_option maxRecDepth 100000 in
theorem laws_big.calls (A0 : Option Addr) (c0 : Nat) (l0 : List Int) (A1 : Option Addr) (c1 : Nat) (l1 : List Int) (r : Bool) (w : World) (hr0 : Kd.C (Kd.int .u8) w A0 l0.length l0) (hc0 : l0.length ≤ c0) (hr1 : Kd.C (Kd.int .u8) w A1 l1.length l1) (hc1 : l1.length ≤ c1) (h : laws_big.f l0 l1 = some r) :
  Calls Try.prog 5 #[.slice A0 l0.length c0, .slice A1 l1.length c1] w fun e w' => e = .returned (.bool r) ∧ Drawn0 w w' := by
 have HR0 := Aside0.mk hr0
 have HC0 := Aside0.mk hc0
 clear hr0 hc0
 have HR1 := Aside0.mk hr1
 have HC1 := Aside0.mk hc1
 clear hr1 hc1
 have H := h
 unfold laws_big.f at H
 clear h
 by_cases c3 : (l0.length : Int) > 1048576
 ·rw [if_pos c3] at H
  have c3b0 : decide (1048576 < (l0.length : Int)) = true := decide_eq_true c3
  have c3b1 : decide (1048576 < l0.length) = true := decide_eq_true (by omega)
  clear c3
  obtain rfl := Option.some.inj H
  go_enter Try.func5, Try.ntmps5
  go_wp2
  go_ret
  exact ⟨by first | rfl | (simp; done) | (simp [*]; done), by repeat (first | exact Drawn0.refl _ | apply Drawn0.step)⟩
 ·rw [if_neg c3] at H
  have c3b0 : decide (1048576 < (l0.length : Int)) = false := decide_eq_false c3
  have c3b1 : decide (1048576 < l0.length) = false := decide_eq_false (by omega)
  clear c3
  obtain rfl := Option.some.inj H
  go_enter Try.func5, Try.ntmps5
  go_wp2
  go_ret
  exact ⟨by first | rfl | (simp; done) | (simp [*]; done), by repeat (first | exact Drawn0.refl _ | apply Drawn0.step)⟩


end Go.Proofs.Ytofjndbpndpjjaa.Fn
namespace Go.Proofs.Ytofjndbpndpjjaa.Fn
open Go.RowKit Go.Proofs.YtofjndbpndpjjaaW.PrintWords Go.Proofs.YtofjndbpndpjjaaW.PrintLast Go.Proofs.YtofjndbpndpjjaaW.PrintMore
attribute [local go_sem] max2_int min2_int max_two min_two max_three min_three max_four min_four   -- for this text's walks alone
set_option linter.unusedVariables false
set_option linter.unusedSimpArgs false

/-! ### impl_isCircle: function 93 -/
def impl_isCircle.f (a0 : Int) : Option (Bool) := if a0 ≥ 2 then (some (decide (a0 ≤ 31))) else (some false)
set_option maxHeartbeats 8000000 in
set_option maxRecDepth 100000 in
theorem impl_isCircle.calls (a0 : Int) (r : Bool) (w : World) (h : impl_isCircle.f a0 = some r) :
  Calls Try.prog 93 #[.int .i64 a0] w fun e w' => e = .returned (.bool r) ∧ Drawn0 w w' := by
 have H := h
 unfold impl_isCircle.f at H
 clear h
 by_cases c2 : a0 ≥ 2
 ·rw [if_pos c2] at H
  have c2b0 : decide (2 ≤ a0) = true := decide_eq_true c2
  clear c2
  obtain rfl := Option.some.inj H
  go_enter Try.func93, Try.ntmps93
  go_wp2
  go_ret
  exact ⟨by first | rfl | (simp; done) | (simp [*]; done), by repeat (first | exact Drawn0.refl _ | apply Drawn0.step)⟩
 ·rw [if_neg c2] at H
  have c2b0 : decide (2 ≤ a0) = false := decide_eq_false c2
  clear c2
  obtain rfl := Option.some.inj H
  go_enter Try.func93, Try.ntmps93
  go_wp2
  go_ret
  exact ⟨by first | rfl | (simp; done) | (simp [*]; done), by repeat (first | exact Drawn0.refl _ | apply Drawn0.step)⟩


end Go.Proofs.Ytofjndbpndpjjaa.Fn
namespace Go.Proofs.Ytofjndbpndpjjaa.Fn
open Go.RowKit Go.Proofs.YtofjndbpndpjjaaW.PrintWords Go.Proofs.YtofjndbpndpjjaaW.PrintLast Go.Proofs.YtofjndbpndpjjaaW.PrintMore
attribute [local go_sem] max2_int min2_int max_two min_two max_three min_three max_four min_four   -- for this text's walks alone
set_option linter.unusedVariables false
set_option linter.unusedSimpArgs false

/-! ### impl_IsCircleSet: function 45 -/
mutual
def impl_IsCircleSet.j0 : Nat → Int → List Int → Bool → Option (Bool)
 | 0, _, _, _ => none
 | k + 1, x0, x1, x25 => if x25 = true then (some false) else (impl_IsCircleSet.l0 k x0 x1 x1 (x1.length : Int) 0)
def impl_IsCircleSet.l0 : Nat → Int → List Int → List Int → Int → Int → Option (Bool)
 | 0, _, _, _, _, _ => none
 | k + 1, x0, x1, x26, x27, x28 => if x28 < x27 then (if 0 ≤ x28 then (if x28 < (x26.length : Int) then (if (rd x26 x28) < 0 then (some false) else (if (rd x26 x28) ≥ x0 then (some false) else (if x28 > 0 then (if 0 ≤ (wrap64 (x28 - 1)) then (if (wrap64 (x28 - 1)) < (x1.length : Int) then (if (rd x1 (wrap64 (x28 - 1))) ≥ (rd x26 x28) then (some false) else (impl_IsCircleSet.l0 k x0 x1 x26 x27 (wrap64 (x28 + 1)))) else (none)) else (none)) else (impl_IsCircleSet.l0 k x0 x1 x26 x27 (wrap64 (x28 + 1)))))) else (none)) else (none)) else (some true)
end
def impl_IsCircleSet.f (k : Nat) (a0 : Int) (l1 : List Int) : Option (Bool) := (impl_isCircle.f a0).bind fun t745 => (if t745 = true then (if (l1.length : Int) < 1 then (impl_IsCircleSet.j0 k a0 l1 true) else (if (l1.length : Int) > 8 then (impl_IsCircleSet.j0 k a0 l1 true) else (impl_IsCircleSet.j0 k a0 l1 (decide ((l1.length : Int) ≥ a0))))) else (impl_IsCircleSet.j0 k a0 l1 true))
theorem impl_IsCircleSet.mono_l : ∀ k, (∀ y0 y1 y2, LeO (impl_IsCircleSet.j0 k y0 y1 y2) (impl_IsCircleSet.j0 (k + 1) y0 y1 y2)) ∧ (∀ y0 y1 y2 y3 y4, LeO (impl_IsCircleSet.l0 k y0 y1 y2 y3 y4) (impl_IsCircleSet.l0 (k + 1) y0 y1 y2 y3 y4))
 | 0 => ⟨fun _ _ _ r h => by simp [impl_IsCircleSet.j0] at h, fun _ _ _ _ _ r h => by simp [impl_IsCircleSet.l0] at h⟩
 | k + 1 => by
  obtain ⟨ih0, ih1⟩ := impl_IsCircleSet.mono_l k
  refine ⟨?_, ?_⟩
  ·intro y0 y1 y2
   unfold impl_IsCircleSet.j0
   repeat' (first | (with_reducible first | exact ih1 _ _ _ _ _ | exact LeO.refl _ | exact LeO.none _ | refine LeO.ite ?_ ?_ | refine LeO.bind ?_ (fun _ => ?_)) | exact ih1 _ _ _ _ _ | exact LeO.none _ | refine LeO.ite ?_ ?_ | refine LeO.bind ?_ (fun _ => ?_))
  ·intro y0 y1 y2 y3 y4
   unfold impl_IsCircleSet.l0
   repeat' (first | (with_reducible first | exact ih1 _ _ _ _ _ | exact LeO.refl _ | exact LeO.none _ | refine LeO.ite ?_ ?_ | refine LeO.bind ?_ (fun _ => ?_)) | exact ih1 _ _ _ _ _ | exact LeO.none _ | refine LeO.ite ?_ ?_ | refine LeO.bind ?_ (fun _ => ?_))
theorem impl_IsCircleSet.mono : ∀ a0 a1 k, LeO (impl_IsCircleSet.f k a0 a1) (impl_IsCircleSet.f (k + 1) a0 a1) := by
 intro a0 a1 k
 obtain ⟨ih0, ih1⟩ := impl_IsCircleSet.mono_l k
 unfold impl_IsCircleSet.f
 repeat' (first | (with_reducible first | exact ih0 _ _ _ | exact LeO.refl _ | exact LeO.none _ | refine LeO.ite ?_ ?_ | refine LeO.bind ?_ (fun _ => ?_)) | exact ih0 _ _ _ | exact LeO.none _ | refine LeO.ite ?_ ?_ | refine LeO.bind ?_ (fun _ => ?_))
set_option maxHeartbeats 8000000 in
set_option maxRecDepth 100000 in
theorem impl_IsCircleSet.calls (k : Nat) (a0 : Int) (A1 : Option Addr) (c1 : Nat) (l1 : List Int) (r : Bool) (w : World) (hr1 : Kd.C (Kd.int .i64) w A1 l1.length l1) (hc1 : l1.length ≤ c1) (h : impl_IsCircleSet.f k a0 l1 = some r) :
  Calls Try.prog 45 #[.int .i64 a0, .slice A1 l1.length c1] w fun e w' => e = .returned (.bool r) ∧ Drawn0 w w' := by
 have HR1 := Aside0.mk hr1
 have HC1 := Aside0.mk hc1
 clear hr1 hc1
 have H := h
 unfold impl_IsCircleSet.f at H
 clear h
 have HC3 := Aside0.mk H
 clear H
 go_enter Try.func45, Try.ntmps45
 go_upto_region 1 with (fail)
 go_cut [25] (fun v25 wc => ∃ (kq : Nat) (x25_2 : Bool), v25 = .bool x25_2 ∧ Aside0 (impl_IsCircleSet.j0 kq a0 l1 x25_2 = some r) ∧ Aside0 (kq ≤ k) ∧ Drawn0 w wc)
 case first =>
  have H := HC3.out
  clear HC3
  replace H := Option.bind_eq_some_iff.mp H
  obtain ⟨t745, A40, H⟩ := H
  replace H : (if t745 = true then (if (l1.length : Int) < 1 then (impl_IsCircleSet.j0 k a0 l1 true) else (if (l1.length : Int) > 8 then (impl_IsCircleSet.j0 k a0 l1 true) else (impl_IsCircleSet.j0 k a0 l1 (decide ((l1.length : Int) ≥ a0))))) else (impl_IsCircleSet.j0 k a0 l1 true)) = some r := H
  have A4 := Aside0.mk A40
  clear A40
  by_cases c5 : t745 = true
  ·subst c5
   have H1 : (if (l1.length : Int) < 1 then (impl_IsCircleSet.j0 k a0 l1 true) else (if (l1.length : Int) > 8 then (impl_IsCircleSet.j0 k a0 l1 true) else (impl_IsCircleSet.j0 k a0 l1 (decide ((l1.length : Int) ≥ a0))))) = some r := by rw [if_pos rfl] at H; exact H
   clear H
   have H := H1
   clear H1
   by_cases c6 : (l1.length : Int) < 1
   ·rw [if_pos c6] at H
    have c6b0 : decide ((l1.length : Int) < 1) = true := decide_eq_true c6
    have c6b1 : decide (l1.length < 1) = true := decide_eq_true (by omega)
    clear c6
    (first | rw [c6b0] | (simp only [i64_w, i32_w]; rw [c6b0]) | skip)
    have H' := Aside0.mk H
    clear H
    go_wp2_with (first | ((with_reducible refine gate_callee (f := 93) rfl ?_); refine goesA (some 8) Try.func93 #[.int .i64 a0] ?_; (with_reducible refine (impl_isCircle.calls a0 true _ A4.out).mono ?_); rintro e w' ⟨rfl, ⟨nd, rfl⟩⟩; refine ⟨_, rfl, ?_⟩))
    go_meet
    case rel => exact ⟨_, (true), eqd, H', ⟨leD⟩, by repeat (first | exact Drawn0.refl _ | apply Drawn0.step)⟩
   ·rw [if_neg c6] at H
    have c6b0 : decide ((l1.length : Int) < 1) = false := decide_eq_false c6
    have c6b1 : decide (l1.length < 1) = false := decide_eq_false (by omega)
    clear c6
    (first | rw [c6b0] | (simp only [i64_w, i32_w]; rw [c6b0]) | skip)
    by_cases c7 : (l1.length : Int) > 8
    ·rw [if_pos c7] at H
     have c7b0 : decide (8 < (l1.length : Int)) = true := decide_eq_true c7
     have c7b1 : decide (8 < l1.length) = true := decide_eq_true (by omega)
     clear c7
     have H' := Aside0.mk H
     clear H
     go_wp2_with (first | ((with_reducible refine gate_callee (f := 93) rfl ?_); refine goesA (some 8) Try.func93 #[.int .i64 a0] ?_; (with_reducible refine (impl_isCircle.calls a0 true _ A4.out).mono ?_); rintro e w' ⟨rfl, ⟨nd, rfl⟩⟩; refine ⟨_, rfl, ?_⟩))
     go_meet
     case rel => exact ⟨_, (true), eqd, H', ⟨leD⟩, by repeat (first | exact Drawn0.refl _ | apply Drawn0.step)⟩
    ·rw [if_neg c7] at H
     have c7b0 : decide (8 < (l1.length : Int)) = false := decide_eq_false c7
     have c7b1 : decide (8 < l1.length) = false := decide_eq_false (by omega)
     clear c7
     have H' := Aside0.mk H
     clear H
     go_wp2_with (first | ((with_reducible refine gate_callee (f := 93) rfl ?_); refine goesA (some 8) Try.func93 #[.int .i64 a0] ?_; (with_reducible refine (impl_isCircle.calls a0 true _ A4.out).mono ?_); rintro e w' ⟨rfl, ⟨nd, rfl⟩⟩; refine ⟨_, rfl, ?_⟩))
     go_meet
     case rel => exact ⟨_, (decide ((l1.length : Int) ≥ a0)), eqd, H', ⟨leD⟩, by repeat (first | exact Drawn0.refl _ | apply Drawn0.step)⟩
  ·replace c5 := Bool.eq_false_iff.mpr c5
   subst c5
   have H1 : (impl_IsCircleSet.j0 k a0 l1 true) = some r := by rw [if_neg (show ¬ (false = true) by decide)] at H; exact H
   clear H
   have H := H1
   clear H1
   have H' := Aside0.mk H
   clear H
   go_wp2_with (first | ((with_reducible refine gate_callee (f := 93) rfl ?_); refine goesA (some 8) Try.func93 #[.int .i64 a0] ?_; (with_reducible refine (impl_isCircle.calls a0 false _ A4.out).mono ?_); rintro e w' ⟨rfl, ⟨nd, rfl⟩⟩; refine ⟨_, rfl, ?_⟩))
   go_meet
   case rel => exact ⟨_, (true), eqd, H', ⟨leD⟩, by repeat (first | exact Drawn0.refl _ | apply Drawn0.step)⟩
 case rest =>
  clear HC3
  try clear c1
  try clear p2
  try clear c4
  try clear c5
  try clear c6
  try clear c6b0
  try clear c6b1
  try clear c7
  try clear c7b0
  try clear c7b1
  obtain ⟨kq, x25_2, rfl, HA, HJ2, ⟨mc2, rfl⟩⟩ := hcut
  cases kq with
  | zero => exact absurd HA.out (by simp [impl_IsCircleSet.j0])
  | succ kj2 =>
   have H := HA.out
   clear HA
   simp only [impl_IsCircleSet.j0] at H
   by_cases c8 : x25_2 = true
   ·subst c8
    have H1 : (some false) = some r := by rw [if_pos rfl] at H; exact H
    clear H
    have H := H1
    clear H1
    obtain rfl := Option.some.inj H
    go_wp2
    go_ret
    exact ⟨by first | rfl | (simp; done) | (simp [*]; done), by repeat (first | exact Drawn0.refl _ | apply Drawn0.step)⟩
   ·replace c8 := Bool.eq_false_iff.mpr c8
    subst c8
    have H1 : (impl_IsCircleSet.l0 kj2 a0 l1 l1 (l1.length : Int) 0) = some r := by rw [if_neg (show ¬ (false = true) by decide)] at H; exact H
    clear H
    have H := H1
    clear H1
    have H' := Aside0.mk H
    clear H
    go_wp2
    go_loopg [28] kj2 (fun kq v28 w' => ∃ (x28_2 : Int), v28 = .int .i64 x28_2 ∧ Aside0 (impl_IsCircleSet.l0 kq a0 l1 l1 (l1.length : Int) x28_2 = some r) ∧ Aside0 (kq ≤ kj2) ∧ Drawn0 w w')
    case atStart => exact ⟨(0), eqd, H', ⟨Nat.le_refl _⟩, by repeat (first | exact Drawn0.refl _ | apply Drawn0.step)⟩
    case round =>
     clear H'
     try clear c1
     try clear c2
     try clear p2
     try clear c4
     try clear c5
     try clear c6
     try clear c6b0
     try clear c6b1
     try clear c7
     try clear c7b0
     try clear c7b1
     try clear c8
     try clear p2
     obtain ⟨x28_2, rfl, HA, HK2, ⟨m2, rfl⟩⟩ := hrel
     cases gk with
     | zero => exact absurd HA.out (by simp [impl_IsCircleSet.l0])
     | succ k2 =>
      have H := HA.out
      clear HA
      simp only [impl_IsCircleSet.l0] at H
      by_cases c9 : x28_2 < (l1.length : Int)
      ·rw [if_pos c9] at H
       have c9b0 : decide (x28_2 < (l1.length : Int)) = true := decide_eq_true c9
       clear c9
       by_cases c10 : 0 ≤ x28_2
       ·rw [if_pos c10] at H
        have c10b0 : decide (0 ≤ x28_2) = true := decide_eq_true c10
        clear c10
        by_cases c11 : x28_2 < (l1.length : Int)
        ·rw [if_pos c11] at H
         have c11b0 : decide (x28_2 < (l1.length : Int)) = true := decide_eq_true c11
         clear c11
         by_cases c12 : (rd l1 x28_2) < 0
         ·rw [if_pos c12] at H
          have c12b0 : decide ((rd l1 x28_2) < 0) = true := decide_eq_true c12
          clear c12
          obtain rfl := Option.some.inj H
          have p746 : 0 ≤ (x28_2 : Int) := ofd
          have q746 : x28_2 < (l1.length : Int) := ofd
          obtain ⟨ad746, e746, hx746_0⟩ := Kd.at_int HR1.out x28_2 p746 q746
          cases e746
          replace p746 := eq_true p746
          replace q746 := eq_true q746
          go_wp2
          go_ret
          exact ⟨by first | rfl | (simp; done) | (simp [*]; done), by repeat (first | exact Drawn0.refl _ | apply Drawn0.step)⟩
         ·rw [if_neg c12] at H
          have c12b0 : decide ((rd l1 x28_2) < 0) = false := decide_eq_false c12
          clear c12
          by_cases c13 : (rd l1 x28_2) ≥ a0
          ·rw [if_pos c13] at H
           have c13b0 : decide (a0 ≤ (rd l1 x28_2)) = true := decide_eq_true c13
           clear c13
           obtain rfl := Option.some.inj H
           have p746 : 0 ≤ (x28_2 : Int) := ofd
           have q746 : x28_2 < (l1.length : Int) := ofd
           obtain ⟨ad746, e746, hx746_0⟩ := Kd.at_int HR1.out x28_2 p746 q746
           cases e746
           replace p746 := eq_true p746
           replace q746 := eq_true q746
           go_wp2
           go_ret
           exact ⟨by first | rfl | (simp; done) | (simp [*]; done), by repeat (first | exact Drawn0.refl _ | apply Drawn0.step)⟩
          ·rw [if_neg c13] at H
           have c13b0 : decide (a0 ≤ (rd l1 x28_2)) = false := decide_eq_false c13
           clear c13
           by_cases c14 : x28_2 > 0
           ·rw [if_pos c14] at H
            have c14b0 : decide (0 < x28_2) = true := decide_eq_true c14
            clear c14
            obtain ⟨ji15, hji15⟩ : ∃ j_ : Int, (wrap64 (x28_2 - 1)) = j_ := ⟨_, rfl⟩
            replace H : (if 0 ≤ (ji15) then (if (ji15) < (l1.length : Int) then (if (rd l1 (ji15)) ≥ (rd l1 x28_2) then (some false) else (impl_IsCircleSet.l0 k2 a0 l1 l1 (l1.length : Int) (wrap64 (x28_2 + 1)))) else (none)) else (none)) = some r := by first | (rw [hji15] at H; exact H) | (simp only [hji15] at H ⊢; exact H)
            have hji15w : (IntKind.i64.wrap (x28_2 - 1)) = ji15 := (i64_w _).trans hji15
            by_cases c16 : 0 ≤ (ji15)
            ·rw [if_pos c16] at H
             have c16b0 : decide (0 ≤ (ji15)) = true := decide_eq_true c16
             clear c16
             by_cases c17 : (ji15) < (l1.length : Int)
             ·rw [if_pos c17] at H
              have c17b0 : decide ((ji15) < (l1.length : Int)) = true := decide_eq_true c17
              clear c17
              by_cases c18 : (rd l1 (ji15)) ≥ (rd l1 x28_2)
              ·rw [if_pos c18] at H
               have c18b0 : decide ((rd l1 x28_2) ≤ (rd l1 (ji15))) = true := decide_eq_true c18
               clear c18
               obtain rfl := Option.some.inj H
               have p746 : 0 ≤ (x28_2 : Int) := ofd
               have q746 : x28_2 < (l1.length : Int) := ofd
               obtain ⟨ad746, e746, hx746_0⟩ := Kd.at_int HR1.out x28_2 p746 q746
               cases e746
               replace p746 := eq_true p746
               replace q746 := eq_true q746
               have p747 : 0 ≤ ((ji15) : Int) := ofd
               have q747 : (ji15) < (l1.length : Int) := ofd
               obtain ⟨ad747, e747, hx747_0⟩ := Kd.at_int HR1.out (ji15) p747 q747
               obtain rfl : ad746 = ad747 := (by injection e747)
               replace p747 := eq_true p747
               replace q747 := eq_true q747
               go_wp2
               go_ret
               exact ⟨by first | rfl | (simp; done) | (simp only [← hji15] <;> (first | rfl | simp)) | (simp [*]; done), by repeat (first | exact Drawn0.refl _ | apply Drawn0.step)⟩
              ·rw [if_neg c18] at H
               have c18b0 : decide ((rd l1 x28_2) ≤ (rd l1 (ji15))) = false := decide_eq_false c18
               clear c18
               have H' := Aside0.mk H
               clear H
               have p746 : 0 ≤ (x28_2 : Int) := ofd
               have q746 : x28_2 < (l1.length : Int) := ofd
               obtain ⟨ad746, e746, hx746_0⟩ := Kd.at_int HR1.out x28_2 p746 q746
               cases e746
               replace p746 := eq_true p746
               replace q746 := eq_true q746
               have p747 : 0 ≤ ((ji15) : Int) := ofd
               have q747 : (ji15) < (l1.length : Int) := ofd
               obtain ⟨ad747, e747, hx747_0⟩ := Kd.at_int HR1.out (ji15) p747 q747
               obtain rfl : ad746 = ad747 := (by injection e747)
               replace p747 := eq_true p747
               replace q747 := eq_true q747
               go_wp2
               first | go_roundg k2 | ((try subst hji15); go_roundg k2)
               case measure => have := HJ2.out; have := HK2.out; omega
               case rel => exact ⟨(wrap64 (x28_2 + 1)), eqd, H', ⟨by have := HJ2.out; have := HK2.out; omega⟩, by repeat (first | exact Drawn0.refl _ | apply Drawn0.step)⟩
             ·rw [if_neg c17] at H
              exact absurd H (by simp)
            ·rw [if_neg c16] at H
             exact absurd H (by simp)
           ·rw [if_neg c14] at H
            have c14b0 : decide (0 < x28_2) = false := decide_eq_false c14
            clear c14
            have H' := Aside0.mk H
            clear H
            have p746 : 0 ≤ (x28_2 : Int) := ofd
            have q746 : x28_2 < (l1.length : Int) := ofd
            obtain ⟨ad746, e746, hx746_0⟩ := Kd.at_int HR1.out x28_2 p746 q746
            cases e746
            replace p746 := eq_true p746
            replace q746 := eq_true q746
            go_wp2
            go_roundg k2
            case measure => have := HJ2.out; have := HK2.out; omega
            case rel => exact ⟨(wrap64 (x28_2 + 1)), eqd, H', ⟨by have := HJ2.out; have := HK2.out; omega⟩, by repeat (first | exact Drawn0.refl _ | apply Drawn0.step)⟩
        ·rw [if_neg c11] at H
         exact absurd H (by simp)
       ·rw [if_neg c10] at H
        exact absurd H (by simp)
      ·rw [if_neg c9] at H
       have c9b0 : decide (x28_2 < (l1.length : Int)) = false := decide_eq_false c9
       clear c9
       obtain rfl := Option.some.inj H
       go_wp2
       go_ret
       exact ⟨by first | rfl | (simp; done) | (simp [*]; done), by repeat (first | exact Drawn0.refl _ | apply Drawn0.step)⟩

noncomputable def impl_IsCircleSet.J0 (x0 : Int) (x1 : List Int) (x25 : Bool) : Option (Bool) := lim fun k => impl_IsCircleSet.j0 k x0 x1 x25
theorem impl_IsCircleSet.J0_lim (x0 : Int) (x1 : List Int) (x25 : Bool) : Lim (fun k => impl_IsCircleSet.j0 k x0 x1 x25) (impl_IsCircleSet.J0 x0 x1 x25) := Lim.of fun k => (impl_IsCircleSet.mono_l k).1 x0 x1 x25
noncomputable def impl_IsCircleSet.L0 (x0 : Int) (x1 : List Int) (x26 : List Int) (x27 : Int) (x28 : Int) : Option (Bool) := lim fun k => impl_IsCircleSet.l0 k x0 x1 x26 x27 x28
theorem impl_IsCircleSet.L0_lim (x0 : Int) (x1 : List Int) (x26 : List Int) (x27 : Int) (x28 : Int) : Lim (fun k => impl_IsCircleSet.l0 k x0 x1 x26 x27 x28) (impl_IsCircleSet.L0 x0 x1 x26 x27 x28) := Lim.of fun k => (impl_IsCircleSet.mono_l k).2 x0 x1 x26 x27 x28
noncomputable def impl_IsCircleSet.F (a0 : Int) (l1 : List Int) : Option (Bool) := lim fun k => impl_IsCircleSet.f k a0 l1
theorem impl_IsCircleSet.F_lim (a0 : Int) (l1 : List Int) : Lim (fun k => impl_IsCircleSet.f k a0 l1) (impl_IsCircleSet.F a0 l1) := Lim.of fun k => impl_IsCircleSet.mono a0 l1 k
theorem impl_IsCircleSet.J0_eq (x0 : Int) (x1 : List Int) (x25 : Bool) : impl_IsCircleSet.J0 x0 x1 x25 = (if x25 = true then (some false) else (impl_IsCircleSet.L0 x0 x1 x1 (x1.length : Int) 0)) :=
 Lim.step (f := fun k => impl_IsCircleSet.j0 (k + 1) x0 x1 x25) (impl_IsCircleSet.J0_lim x0 x1 x25) (fun _ => rfl) (by
  simp only [impl_IsCircleSet.j0]
  repeat' (first | (with_reducible first | exact Lim.const _ | exact impl_IsCircleSet.L0_lim _ _ _ _ _ | refine Lim.ite ?_ ?_ | refine Lim.bind ?_ (fun _ => ?_))))
theorem impl_IsCircleSet.L0_eq (x0 : Int) (x1 : List Int) (x26 : List Int) (x27 : Int) (x28 : Int) : impl_IsCircleSet.L0 x0 x1 x26 x27 x28 = (if x28 < x27 then (if 0 ≤ x28 then (if x28 < (x26.length : Int) then (if (rd x26 x28) < 0 then (some false) else (if (rd x26 x28) ≥ x0 then (some false) else (if x28 > 0 then (if 0 ≤ (wrap64 (x28 - 1)) then (if (wrap64 (x28 - 1)) < (x1.length : Int) then (if (rd x1 (wrap64 (x28 - 1))) ≥ (rd x26 x28) then (some false) else (impl_IsCircleSet.L0 x0 x1 x26 x27 (wrap64 (x28 + 1)))) else (none)) else (none)) else (impl_IsCircleSet.L0 x0 x1 x26 x27 (wrap64 (x28 + 1)))))) else (none)) else (none)) else (some true)) :=
 Lim.step (f := fun k => impl_IsCircleSet.l0 (k + 1) x0 x1 x26 x27 x28) (impl_IsCircleSet.L0_lim x0 x1 x26 x27 x28) (fun _ => rfl) (by
  simp only [impl_IsCircleSet.l0]
  repeat' (first | (with_reducible first | exact Lim.const _ | exact impl_IsCircleSet.L0_lim _ _ _ _ _ | refine Lim.ite ?_ ?_ | refine Lim.bind ?_ (fun _ => ?_))))
theorem impl_IsCircleSet.F_eq (a0 : Int) (l1 : List Int) : impl_IsCircleSet.F a0 l1 = ((impl_isCircle.f a0).bind fun t745 => (if t745 = true then (if (l1.length : Int) < 1 then (impl_IsCircleSet.J0 a0 l1 true) else (if (l1.length : Int) > 8 then (impl_IsCircleSet.J0 a0 l1 true) else (impl_IsCircleSet.J0 a0 l1 (decide ((l1.length : Int) ≥ a0))))) else (impl_IsCircleSet.J0 a0 l1 true))) :=
 Lim.unique (impl_IsCircleSet.F_lim a0 l1) (by
  unfold impl_IsCircleSet.f
  repeat' (first | (with_reducible first | exact Lim.const _ | exact impl_IsCircleSet.J0_lim _ _ _ | refine Lim.ite ?_ ?_ | refine Lim.bind ?_ (fun _ => ?_))))

end Go.Proofs.Ytofjndbpndpjjaa.Fn
namespace Go.Proofs.Ytofjndbpndpjjaa.Fn
open Go.RowKit Go.Proofs.YtofjndbpndpjjaaW.PrintWords Go.Proofs.YtofjndbpndpjjaaW.PrintLast Go.Proofs.YtofjndbpndpjjaaW.PrintMore
attribute [local go_sem] max2_int min2_int max_two min_two max_three min_three max_four min_four   -- for this text's walks alone
set_option linter.unusedVariables false
set_option linter.unusedSimpArgs false

/-! ### slices_Index_int_int: function 98 -/
def slices_Index_int_int.l0 : Nat → List Int → Int → Int → Int → Option (Int)
 | 0, _, _, _, _ => none
 | k + 1, x0, x1, x7, x8 => if x8 < x7 then (if 0 ≤ x8 then (if x8 < (x0.length : Int) then (if x1 = (rd x0 x8) then (some x8) else (slices_Index_int_int.l0 k x0 x1 x7 (wrap64 (x8 + 1)))) else (none)) else (none)) else (some (-1))
def slices_Index_int_int.f (k : Nat) (l0 : List Int) (a1 : Int) : Option (Int) := slices_Index_int_int.l0 k l0 a1 (l0.length : Int) 0
theorem slices_Index_int_int.mono_l : ∀ k, (∀ y0 y1 y2 y3, LeO (slices_Index_int_int.l0 k y0 y1 y2 y3) (slices_Index_int_int.l0 (k + 1) y0 y1 y2 y3))
 | 0 => fun _ _ _ _ r h => by simp [slices_Index_int_int.l0] at h
 | k + 1 => by
  have ih0 := slices_Index_int_int.mono_l k
  ·intro y0 y1 y2 y3
   unfold slices_Index_int_int.l0
   repeat' (first | (with_reducible first | exact ih0 _ _ _ _ | exact LeO.refl _ | exact LeO.none _ | refine LeO.ite ?_ ?_ | refine LeO.bind ?_ (fun _ => ?_)) | exact ih0 _ _ _ _ | exact LeO.none _ | refine LeO.ite ?_ ?_ | refine LeO.bind ?_ (fun _ => ?_))
theorem slices_Index_int_int.mono : ∀ a0 a1 k, LeO (slices_Index_int_int.f k a0 a1) (slices_Index_int_int.f (k + 1) a0 a1) := by
 intro a0 a1 k
 have ih0 := slices_Index_int_int.mono_l k
 unfold slices_Index_int_int.f
 repeat' (first | (with_reducible first | exact ih0 _ _ _ _ | exact LeO.refl _ | exact LeO.none _ | refine LeO.ite ?_ ?_ | refine LeO.bind ?_ (fun _ => ?_)) | exact ih0 _ _ _ _ | exact LeO.none _ | refine LeO.ite ?_ ?_ | refine LeO.bind ?_ (fun _ => ?_))
set_option maxHeartbeats 8000000 in
set_option maxRecDepth 100000 in
theorem slices_Index_int_int.calls (k : Nat) (A0 : Option Addr) (c0 : Nat) (l0 : List Int) (a1 : Int) (r : Int) (w : World) (hr0 : Kd.C (Kd.int .i64) w A0 l0.length l0) (hc0 : l0.length ≤ c0) (h : slices_Index_int_int.f k l0 a1 = some r) :
  Calls Try.prog 98 #[.slice A0 l0.length c0, .int .i64 a1] w fun e w' => e = .returned (.int .i64 r) ∧ Drawn0 w w' := by
 have HR0 := Aside0.mk hr0
 have HC0 := Aside0.mk hc0
 clear hr0 hc0
 have H := h
 unfold slices_Index_int_int.f at H
 clear h
 have H' := Aside0.mk H
 clear H
 go_enter Try.func98, Try.ntmps98
 go_wp2
 go_loopg [8] k (fun kq v8 w' => ∃ (x8_1 : Int), v8 = .int .i64 x8_1 ∧ Aside0 (slices_Index_int_int.l0 kq l0 a1 (l0.length : Int) x8_1 = some r) ∧ Aside0 (kq ≤ k) ∧ Drawn0 w w')
 case atStart => exact ⟨(0), eqd, H', ⟨Nat.le_refl _⟩, by repeat (first | exact Drawn0.refl _ | apply Drawn0.step)⟩
 case round =>
  clear H'
  try clear p2
  obtain ⟨x8_1, rfl, HA, HK1, ⟨m1, rfl⟩⟩ := hrel
  cases gk with
  | zero => exact absurd HA.out (by simp [slices_Index_int_int.l0])
  | succ k1 =>
   have H := HA.out
   clear HA
   simp only [slices_Index_int_int.l0] at H
   by_cases c3 : x8_1 < (l0.length : Int)
   ·rw [if_pos c3] at H
    have c3b0 : decide (x8_1 < (l0.length : Int)) = true := decide_eq_true c3
    clear c3
    by_cases c4 : 0 ≤ x8_1
    ·rw [if_pos c4] at H
     have c4b0 : decide (0 ≤ x8_1) = true := decide_eq_true c4
     clear c4
     by_cases c5 : x8_1 < (l0.length : Int)
     ·rw [if_pos c5] at H
      have c5b0 : decide (x8_1 < (l0.length : Int)) = true := decide_eq_true c5
      clear c5
      by_cases c6 : a1 = (rd l0 x8_1)
      ·rw [if_pos c6] at H
       have c6b0 : (a1 == (rd l0 x8_1)) = true := beq_iff_eq.mpr c6
       have c6b1 : (a1 != (rd l0 x8_1)) = false := bne_eq_false_iff_eq.mpr c6
       clear c6
       obtain rfl := Option.some.inj H
       have p248 : 0 ≤ (x8_1 : Int) := ofd
       have q248 : x8_1 < (l0.length : Int) := ofd
       obtain ⟨ad248, e248, hx248_0⟩ := Kd.at_int HR0.out x8_1 p248 q248
       cases e248
       replace p248 := eq_true p248
       replace q248 := eq_true q248
       go_wp2
       go_ret
       exact ⟨by first | rfl | (simp; done) | (simp [*]; done), by repeat (first | exact Drawn0.refl _ | apply Drawn0.step)⟩
      ·rw [if_neg c6] at H
       have c6b0 : (a1 == (rd l0 x8_1)) = false := beq_eq_false_iff_ne.mpr c6
       have c6b1 : (a1 != (rd l0 x8_1)) = true := bne_iff_ne.mpr c6
       have H' := Aside0.mk H
       clear H
       have p248 : 0 ≤ (x8_1 : Int) := ofd
       have q248 : x8_1 < (l0.length : Int) := ofd
       obtain ⟨ad248, e248, hx248_0⟩ := Kd.at_int HR0.out x8_1 p248 q248
       cases e248
       replace p248 := eq_true p248
       replace q248 := eq_true q248
       go_wp2
       go_roundg k1
       case measure => have := HK1.out; omega
       case rel => exact ⟨(wrap64 (x8_1 + 1)), eqd, H', ⟨by have := HK1.out; omega⟩, by repeat (first | exact Drawn0.refl _ | apply Drawn0.step)⟩
     ·rw [if_neg c5] at H
      exact absurd H (by simp)
    ·rw [if_neg c4] at H
     exact absurd H (by simp)
   ·rw [if_neg c3] at H
    have c3b0 : decide (x8_1 < (l0.length : Int)) = false := decide_eq_false c3
    clear c3
    obtain rfl := Option.some.inj H
    go_wp2
    go_ret
    exact ⟨by first | rfl | (simp; done) | (simp [*]; done), by repeat (first | exact Drawn0.refl _ | apply Drawn0.step)⟩

noncomputable def slices_Index_int_int.L0 (x0 : List Int) (x1 : Int) (x7 : Int) (x8 : Int) : Option (Int) := lim fun k => slices_Index_int_int.l0 k x0 x1 x7 x8
theorem slices_Index_int_int.L0_lim (x0 : List Int) (x1 : Int) (x7 : Int) (x8 : Int) : Lim (fun k => slices_Index_int_int.l0 k x0 x1 x7 x8) (slices_Index_int_int.L0 x0 x1 x7 x8) := Lim.of fun k => (slices_Index_int_int.mono_l k) x0 x1 x7 x8
noncomputable def slices_Index_int_int.F (l0 : List Int) (a1 : Int) : Option (Int) := lim fun k => slices_Index_int_int.f k l0 a1
theorem slices_Index_int_int.F_lim (l0 : List Int) (a1 : Int) : Lim (fun k => slices_Index_int_int.f k l0 a1) (slices_Index_int_int.F l0 a1) := Lim.of fun k => slices_Index_int_int.mono l0 a1 k
theorem slices_Index_int_int.L0_eq (x0 : List Int) (x1 : Int) (x7 : Int) (x8 : Int) : slices_Index_int_int.L0 x0 x1 x7 x8 = (if x8 < x7 then (if 0 ≤ x8 then (if x8 < (x0.length : Int) then (if x1 = (rd x0 x8) then (some x8) else (slices_Index_int_int.L0 x0 x1 x7 (wrap64 (x8 + 1)))) else (none)) else (none)) else (some (-1))) :=
 Lim.step (f := fun k => slices_Index_int_int.l0 (k + 1) x0 x1 x7 x8) (slices_Index_int_int.L0_lim x0 x1 x7 x8) (fun _ => rfl) (by
  simp only [slices_Index_int_int.l0]
  repeat' (first | (with_reducible first | exact Lim.const _ | exact slices_Index_int_int.L0_lim _ _ _ _ | refine Lim.ite ?_ ?_ | refine Lim.bind ?_ (fun _ => ?_))))
theorem slices_Index_int_int.F_eq (l0 : List Int) (a1 : Int) : slices_Index_int_int.F l0 a1 = (slices_Index_int_int.L0 l0 a1 (l0.length : Int) 0) :=
 Lim.unique (slices_Index_int_int.F_lim l0 a1) (by
  unfold slices_Index_int_int.f
  repeat' (first | (with_reducible first | exact Lim.const _ | exact slices_Index_int_int.L0_lim _ _ _ _ | refine Lim.ite ?_ ?_ | refine Lim.bind ?_ (fun _ => ?_))))

end Go.Proofs.Ytofjndbpndpjjaa.Fn
namespace Go.Proofs.Ytofjndbpndpjjaa.Fn
open Go.RowKit Go.Proofs.YtofjndbpndpjjaaW.PrintWords Go.Proofs.YtofjndbpndpjjaaW.PrintLast Go.Proofs.YtofjndbpndpjjaaW.PrintMore
attribute [local go_sem] max2_int min2_int max_two min_two max_three min_three max_four min_four   -- for this text's walks alone
set_option linter.unusedVariables false
set_option linter.unusedSimpArgs false

/-! ### slices_Contains_int_int: function 69 -/
def slices_Contains_int_int.f (k : Nat) (l0 : List Int) (a1 : Int) : Option (Bool) := (slices_Index_int_int.f k l0 a1).bind fun t249 => (some (decide (t249 ≥ 0)))
theorem slices_Contains_int_int.mono : ∀ a0 a1 k, LeO (slices_Contains_int_int.f k a0 a1) (slices_Contains_int_int.f (k + 1) a0 a1) := by
 intro a0 a1 k
 unfold slices_Contains_int_int.f
 repeat' (first | (with_reducible first | exact slices_Index_int_int.mono _ _ _ | exact LeO.refl _ | exact LeO.none _ | refine LeO.ite ?_ ?_ | refine LeO.bind ?_ (fun _ => ?_)) | exact slices_Index_int_int.mono _ _ _ | exact LeO.none _ | refine LeO.ite ?_ ?_ | refine LeO.bind ?_ (fun _ => ?_))
set_option maxHeartbeats 8000000 in
set_option maxRecDepth 100000 in
theorem slices_Contains_int_int.calls (k : Nat) (A0 : Option Addr) (c0 : Nat) (l0 : List Int) (a1 : Int) (r : Bool) (w : World) (hr0 : Kd.C (Kd.int .i64) w A0 l0.length l0) (hc0 : l0.length ≤ c0) (h : slices_Contains_int_int.f k l0 a1 = some r) :
  Calls Try.prog 69 #[.slice A0 l0.length c0, .int .i64 a1] w fun e w' => e = .returned (.bool r) ∧ Drawn0 w w' := by
 have HR0 := Aside0.mk hr0
 have HC0 := Aside0.mk hc0
 clear hr0 hc0
 have H := h
 unfold slices_Contains_int_int.f at H
 clear h
 replace H := Option.bind_eq_some_iff.mp H
 obtain ⟨t249, A30, H⟩ := H
 replace H : (some (decide (t249 ≥ 0))) = some r := H
 have A3 := Aside0.mk A30
 clear A30
 obtain rfl := Option.some.inj H
 go_enter Try.func69, Try.ntmps69
 go_wp2_with (first | ((with_reducible refine gate_callee (f := 98) rfl ?_); refine goesA (some 7) Try.func98 #[.slice A0 l0.length c0, .int .i64 a1] ?_; (with_reducible refine (slices_Index_int_int.calls k _ _ l0 a1 t249 _ ?side1 ?side2 A3.out).mono ?_); (case side1 => repeat (first | exact HR0.out | (with_reducible refine Kd.C_alloc ?_ _) | (with_reducible refine Kd.C_drewN ?_ _) | (with_reducible refine Kd.C_drew ?_))); (case side2 => exact HC0.out); rintro e w' ⟨rfl, ⟨nd, rfl⟩⟩; refine ⟨_, rfl, ?_⟩))
 go_ret
 exact ⟨by first | rfl | (simp; done) | (simp [*]; done), by repeat (first | exact Drawn0.refl _ | apply Drawn0.step)⟩

noncomputable def slices_Contains_int_int.F (l0 : List Int) (a1 : Int) : Option (Bool) := lim fun k => slices_Contains_int_int.f k l0 a1
theorem slices_Contains_int_int.F_lim (l0 : List Int) (a1 : Int) : Lim (fun k => slices_Contains_int_int.f k l0 a1) (slices_Contains_int_int.F l0 a1) := Lim.of fun k => slices_Contains_int_int.mono l0 a1 k
theorem slices_Contains_int_int.F_eq (l0 : List Int) (a1 : Int) : slices_Contains_int_int.F l0 a1 = ((slices_Index_int_int.F l0 a1).bind fun t249 => (some (decide (t249 ≥ 0)))) :=
 Lim.unique (slices_Contains_int_int.F_lim l0 a1) (by
  unfold slices_Contains_int_int.f
  repeat' (first | (with_reducible first | exact Lim.const _ | exact slices_Index_int_int.F_lim _ _ | refine Lim.ite ?_ ?_ | refine Lim.bind ?_ (fun _ => ?_))))

end Go.Proofs.Ytofjndbpndpjjaa.Fn
namespace Go.Proofs.Ytofjndbpndpjjaa.Fn
open Go.RowKit Go.Proofs.YtofjndbpndpjjaaW.PrintWords Go.Proofs.YtofjndbpndpjjaaW.PrintLast Go.Proofs.YtofjndbpndpjjaaW.PrintMore
attribute [local go_sem] max2_int min2_int max_two min_two max_three min_three max_four min_four   -- for this text's walks alone
set_option linter.unusedVariables false
set_option linter.unusedSimpArgs false

/-! ### impl_ComplementSet: function 50 -/
def impl_ComplementSet.l0 : Nat → Int → List Int → List Int → Int → Int → Option (List Int × Bool)
 | 0, _, _, _, _, _ => none
 | k + 1, x0, x1, x6, x12, x13 => if x13 < x12 then ((slices_Contains_int_int.f k x1 x13).bind fun t879 => (if t879 = true then (impl_ComplementSet.l0 k x0 x1 x6 x12 (wrap64 (x13 + 1))) else (if x6.length < 17592186044416 then (impl_ComplementSet.l0 k x0 x1 (x6 ++ [x13]) x12 (wrap64 (x13 + 1))) else (none)))) else ((impl_IsCircleSet.f k x0 x6).bind fun t883 => (if t883 = true then (some (x6, true)) else (some (([] : List Int), false))))
def impl_ComplementSet.f (k : Nat) (a0 : Int) (l1 : List Int) : Option (List Int × Bool) := (impl_IsCircleSet.f k a0 l1).bind fun t878 => (if t878 = true then (impl_ComplementSet.l0 k a0 l1 ([] : List Int) a0 0) else (some (([] : List Int), false)))
theorem impl_ComplementSet.mono_l : ∀ k, (∀ y0 y1 y2 y3 y4, LeO (impl_ComplementSet.l0 k y0 y1 y2 y3 y4) (impl_ComplementSet.l0 (k + 1) y0 y1 y2 y3 y4))
 | 0 => fun _ _ _ _ _ r h => by simp [impl_ComplementSet.l0] at h
 | k + 1 => by
  have ih0 := impl_ComplementSet.mono_l k
  ·intro y0 y1 y2 y3 y4
   unfold impl_ComplementSet.l0
   repeat' (first | (with_reducible first | exact ih0 _ _ _ _ _ | exact impl_IsCircleSet.mono _ _ _ | exact slices_Contains_int_int.mono _ _ _ | exact LeO.refl _ | exact LeO.none _ | refine LeO.ite ?_ ?_ | refine LeO.bind ?_ (fun _ => ?_)) | exact ih0 _ _ _ _ _ | exact impl_IsCircleSet.mono _ _ _ | exact slices_Contains_int_int.mono _ _ _ | exact LeO.none _ | refine LeO.ite ?_ ?_ | refine LeO.bind ?_ (fun _ => ?_))
theorem impl_ComplementSet.mono : ∀ a0 a1 k, LeO (impl_ComplementSet.f k a0 a1) (impl_ComplementSet.f (k + 1) a0 a1) := by
 intro a0 a1 k
 have ih0 := impl_ComplementSet.mono_l k
 unfold impl_ComplementSet.f
 repeat' (first | (with_reducible first | exact ih0 _ _ _ _ _ | exact impl_IsCircleSet.mono _ _ _ | exact LeO.refl _ | exact LeO.none _ | refine LeO.ite ?_ ?_ | refine LeO.bind ?_ (fun _ => ?_)) | exact ih0 _ _ _ _ _ | exact impl_IsCircleSet.mono _ _ _ | exact LeO.none _ | refine LeO.ite ?_ ?_ | refine LeO.bind ?_ (fun _ => ?_))
set_option maxHeartbeats 8000000 in
set_option maxRecDepth 100000 in
theorem impl_ComplementSet.calls (k : Nat) (a0 : Int) (A1 : Option Addr) (c1 : Nat) (l1 : List Int) (r1 : List Int) (r2 : Bool) (w : World) (hr1 : Kd.C (Kd.int .i64) w A1 l1.length l1) (hc1 : l1.length ≤ c1) (h : impl_ComplementSet.f k a0 l1 = some (r1, r2)) :
  Calls Try.prog 50 #[.int .i64 a0, .slice A1 l1.length c1] w fun e w' => ∃ v0_ : Value, e = .returned (.tuple #[v0_, .bool r2]) ∧ Kd.R (Kd.int .i64) 3 w' w.heap.size (fun _ => True) v0_ r1 ∧ Below w.heap.size w w' := by
 have HR1 := Aside0.mk hr1
 have HC1 := Aside0.mk hc1
 clear hr1 hc1
 have HB := Aside0.mk (Below.refl w.heap.size w)
 have H := h
 unfold impl_ComplementSet.f at H
 clear h
 replace H := Option.bind_eq_some_iff.mp H
 obtain ⟨t878, A30, H⟩ := H
 replace H : (if t878 = true then (impl_ComplementSet.l0 k a0 l1 ([] : List Int) a0 0) else (some (([] : List Int), false))) = some (r1, r2) := H
 have A3 := Aside0.mk A30
 clear A30
 by_cases c4 : t878 = true
 ·subst c4
  have H1 : (impl_ComplementSet.l0 k a0 l1 ([] : List Int) a0 0) = some (r1, r2) := by rw [if_pos rfl] at H; exact H
  clear H
  have H := H1
  clear H1
  have H' := Aside0.mk H
  clear H
  go_enter Try.func50, Try.ntmps50
  go_wp2_with (first | ((with_reducible refine gate_callee (f := 45) rfl ?_); refine goesA (some 10) Try.func45 #[.int .i64 a0, .slice A1 l1.length c1] ?_; (with_reducible refine (impl_IsCircleSet.calls k a0 _ _ l1 true _ ?side1 ?side2 A3.out).mono ?_); (case side1 => repeat (first | exact HR1.out | (with_reducible refine Kd.C_alloc ?_ _) | (with_reducible refine Kd.C_drewN ?_ _) | (with_reducible refine Kd.C_drew ?_))); (case side2 => exact HC1.out); rintro e w' ⟨rfl, ⟨nd, rfl⟩⟩; refine ⟨_, rfl, ?_⟩))
  go_loopg [6, 13] k (fun kq v6 v13 w' => ∃ (x6_1 : List Int) (x13_1 : Int), v13 = .int .i64 x13_1 ∧ Aside0 (impl_ComplementSet.l0 kq a0 l1 x6_1 a0 x13_1 = some (r1, r2)) ∧ Aside0 (kq ≤ k) ∧ Aside0 (Kd.R (Kd.int .i64) 3 w' w.heap.size (fun _ => True) v6 x6_1) ∧ Aside0 (Below w.heap.size w w'))
  case atStart => exact ⟨(([] : List Int)), (0), eqd, H', ⟨Nat.le_refl _⟩, ⟨by first | exact Kd.R_nil _ _ _ _ _ | exact Kd.N_nil _ _ _ _ _ | exact Kd.V_nil _ _ _ _ _ | exact Kd.Q_nil _ _ _ _ _ | exact Kd.S_nil _ _ _ _ _⟩, ⟨atB HB⟩⟩
  case round =>
   clear H'
   try clear c1
   try clear p2
   try clear c4
   obtain ⟨x6_1, x13_1, rfl, HA, HK1, HO_6, HB⟩ := hrel
   cases gk with
   | zero => exact absurd HA.out (by simp [impl_ComplementSet.l0])
   | succ k1 =>
    have H := HA.out
    clear HA
    simp only [impl_ComplementSet.l0] at H
    by_cases c5 : x13_1 < a0
    ·rw [if_pos c5] at H
     have c5b0 : decide (x13_1 < a0) = true := decide_eq_true c5
     clear c5
     replace H := Option.bind_eq_some_iff.mp H
     obtain ⟨t879, A60, H⟩ := H
     replace H : (if t879 = true then (impl_ComplementSet.l0 k1 a0 l1 x6_1 a0 (wrap64 (x13_1 + 1))) else (if x6_1.length < 17592186044416 then (impl_ComplementSet.l0 k1 a0 l1 (x6_1 ++ [x13_1]) a0 (wrap64 (x13_1 + 1))) else (none))) = some (r1, r2) := H
     have A6 := Aside0.mk A60
     clear A60
     by_cases c7 : t879 = true
     ·subst c7
      have H1 : (impl_ComplementSet.l0 k1 a0 l1 x6_1 a0 (wrap64 (x13_1 + 1))) = some (r1, r2) := by rw [if_pos rfl] at H; exact H
      clear H
      have H := H1
      clear H1
      have H' := Aside0.mk H
      clear H
      go_wp2_with (first | ((with_reducible refine gate_callee (f := 69) rfl ?_); refine goesA (some 18) Try.func69 #[.slice A1 l1.length c1, .int .i64 x13_1] ?_; (with_reducible refine (slices_Contains_int_int.calls k1 _ _ l1 x13_1 true _ ?side1 ?side2 A6.out).mono ?_); (case side1 => repeat (first | exact (Kd.C_below HR1.out HB.out) | (with_reducible refine Kd.C_alloc ?_ _) | (with_reducible refine Kd.C_drewN ?_ _) | (with_reducible refine Kd.C_drew ?_))); (case side2 => exact HC1.out); rintro e w' ⟨rfl, ⟨nd, rfl⟩⟩; refine ⟨_, rfl, ?_⟩))
      go_roundg k1
      case measure => have := HK1.out; omega
      case rel => exact ⟨(x6_1), (wrap64 (x13_1 + 1)), eqd, H', ⟨by have := HK1.out; omega⟩, ⟨atR HO_6⟩, ⟨atB HB⟩⟩
     ·replace c7 := Bool.eq_false_iff.mpr c7
      subst c7
      have H1 : (if x6_1.length < 17592186044416 then (impl_ComplementSet.l0 k1 a0 l1 (x6_1 ++ [x13_1]) a0 (wrap64 (x13_1 + 1))) else (none)) = some (r1, r2) := by rw [if_neg (show ¬ (false = true) by decide)] at H; exact H
      clear H
      have H := H1
      clear H1
      by_cases c8 : x6_1.length < 17592186044416
      ·rw [if_pos c8] at H
       have LMc8 := Aside0.mk c8
       clear c8
       obtain ⟨y880, hy880⟩ : ∃ y_ : List Int, y_ = (x6_1 ++ [x13_1]) := ⟨_, rfl⟩
       replace H : (impl_ComplementSet.l0 k1 a0 l1 y880 a0 (wrap64 (x13_1 + 1))) = some (r1, r2) := by first | (rw [hy880]; with_reducible exact H) | (have H2_ := (Option.bind_some _ _).symm.trans H; rw [hy880]; with_reducible exact H2_) | (have H2_ := (Option.bind_some _ _).symm.trans H; with_reducible exact H2_) | with_reducible exact H | (rw [hy880]; exact H) | exact H
       have Ny880 := Aside0.mk hy880
       clear hy880
       have H' := Aside0.mk H
       clear H
       go_wp2_with (first | ((with_reducible refine gate_callee (f := 69) rfl ?_); refine goesA (some 18) Try.func69 #[.slice A1 l1.length c1, .int .i64 x13_1] ?_; (with_reducible refine (slices_Contains_int_int.calls k1 _ _ l1 x13_1 false _ ?side1 ?side2 A6.out).mono ?_); (case side1 => repeat (first | exact (Kd.C_below HR1.out HB.out) | (with_reducible refine Kd.C_alloc ?_ _) | (with_reducible refine Kd.C_drewN ?_ _) | (with_reducible refine Kd.C_drew ?_))); (case side2 => exact HC1.out); rintro e w' ⟨rfl, ⟨nd, rfl⟩⟩; refine ⟨_, rfl, ?_⟩) | ((with_reducible refine gate_builtin (b := .append) (xs := #[.tmp 20, .tmp 22]) rfl ?_); at_builtin; refine Kd.R_append (Kd.int .i64) (w0 := w) w.heap.size rfl (.tmp 20) (.tmp 22) 24 3 (.int .i64 0) 8 rfl Try.underlying24 info3 rfl (by decide) (by omega) u6 x6_1 x13_1 [.int .i64 x13_1] (fun _ => True) (fun _ => False) rfl rfl ?aP (fun _ hk => hk.elim) ?aF ?aO ?aB ?aS ?aL ?_; (case aP => exact rfl); (case aB => exact (atB HB)); (case aF => exact (fun _ _ => trivial)); (case aO => exact (atR HO_6)); (case aS => exact (szB HB)); (case aL => have := LMc8.out; omega); intro v881 w9 ho hb hg hat; rw [← Ny880.out] at ho; have HO882 := Aside0.mk (ho); replace HB := Aside0.mk (hb); clear HO_6; clear ho hb hg hat))
       go_roundg k1
       case measure => have := HK1.out; omega
       case rel => exact ⟨(y880), (wrap64 (x13_1 + 1)), eqd, H', ⟨by have := HK1.out; omega⟩, ⟨atR HO882⟩, ⟨atB HB⟩⟩
      ·rw [if_neg c8] at H
       exact absurd H (by simp)
    ·rw [if_neg c5] at H
     have c5b0 : decide (x13_1 < a0) = false := decide_eq_false c5
     clear c5
     replace H := Option.bind_eq_some_iff.mp H
     obtain ⟨t883, A100, H⟩ := H
     replace H : (if t883 = true then (some (x6_1, true)) else (some (([] : List Int), false))) = some (r1, r2) := H
     have A10 := Aside0.mk A100
     clear A100
     by_cases c11 : t883 = true
     ·subst c11
      have H1 : (some (x6_1, true)) = some (r1, r2) := by rw [if_pos rfl] at H; exact H
      clear H
      have H := H1
      clear H1
      simp only [Option.some.injEq, Prod.mk.injEq] at H
      obtain ⟨rfl, rfl⟩ := H
      obtain ⟨Ao12, co12, eo12⟩ := Kd.R_slice HO_6.out
      subst eo12
      go_wp2_with (first | ((with_reducible refine gate_callee (f := 45) rfl ?_); refine goesA (some 27) Try.func45 #[.int .i64 a0, .slice Ao12 x6_1.length co12] ?_; (with_reducible refine (impl_IsCircleSet.calls k1 a0 _ _ x6_1 true _ ?side1 ?side2 A10.out).mono ?_); (case side1 => exact atRC HO_6); (case side2 => exact (Kd.R_reads' HO_6.out).2.1); rintro e w' ⟨rfl, ⟨nd, rfl⟩⟩; refine ⟨_, rfl, ?_⟩))
      go_ret2
      exact ⟨_, eqr, atR HO_6, atB HB⟩
     ·replace c11 := Bool.eq_false_iff.mpr c11
      subst c11
      have H1 : (some (([] : List Int), false)) = some (r1, r2) := by rw [if_neg (show ¬ (false = true) by decide)] at H; exact H
      clear H
      have H := H1
      clear H1
      simp only [Option.some.injEq, Prod.mk.injEq] at H
      obtain ⟨rfl, rfl⟩ := H
      obtain ⟨Ao13, co13, eo13⟩ := Kd.R_slice HO_6.out
      subst eo13
      go_wp2_with (first | ((with_reducible refine gate_callee (f := 45) rfl ?_); refine goesA (some 27) Try.func45 #[.int .i64 a0, .slice Ao13 x6_1.length co13] ?_; (with_reducible refine (impl_IsCircleSet.calls k1 a0 _ _ x6_1 false _ ?side1 ?side2 A10.out).mono ?_); (case side1 => exact atRC HO_6); (case side2 => exact (Kd.R_reads' HO_6.out).2.1); rintro e w' ⟨rfl, ⟨nd, rfl⟩⟩; refine ⟨_, rfl, ?_⟩))
      go_ret2
      exact ⟨_, eqr, by first | exact Kd.R_nil _ _ _ _ _ | exact Kd.N_nil _ _ _ _ _ | exact Kd.V_nil _ _ _ _ _ | exact Kd.Q_nil _ _ _ _ _ | exact Kd.S_nil _ _ _ _ _, atB HB⟩
 ·replace c4 := Bool.eq_false_iff.mpr c4
  subst c4
  have H1 : (some (([] : List Int), false)) = some (r1, r2) := by rw [if_neg (show ¬ (false = true) by decide)] at H; exact H
  clear H
  have H := H1
  clear H1
  simp only [Option.some.injEq, Prod.mk.injEq] at H
  obtain ⟨rfl, rfl⟩ := H
  go_enter Try.func50, Try.ntmps50
  go_wp2_with (first | ((with_reducible refine gate_callee (f := 45) rfl ?_); refine goesA (some 10) Try.func45 #[.int .i64 a0, .slice A1 l1.length c1] ?_; (with_reducible refine (impl_IsCircleSet.calls k a0 _ _ l1 false _ ?side1 ?side2 A3.out).mono ?_); (case side1 => repeat (first | exact HR1.out | (with_reducible refine Kd.C_alloc ?_ _) | (with_reducible refine Kd.C_drewN ?_ _) | (with_reducible refine Kd.C_drew ?_))); (case side2 => exact HC1.out); rintro e w' ⟨rfl, ⟨nd, rfl⟩⟩; refine ⟨_, rfl, ?_⟩))
  go_ret2
  exact ⟨_, eqr, by first | exact Kd.R_nil _ _ _ _ _ | exact Kd.N_nil _ _ _ _ _ | exact Kd.V_nil _ _ _ _ _ | exact Kd.Q_nil _ _ _ _ _ | exact Kd.S_nil _ _ _ _ _, atB HB⟩

noncomputable def impl_ComplementSet.L0 (x0 : Int) (x1 : List Int) (x6 : List Int) (x12 : Int) (x13 : Int) : Option (List Int × Bool) := lim fun k => impl_ComplementSet.l0 k x0 x1 x6 x12 x13
theorem impl_ComplementSet.L0_lim (x0 : Int) (x1 : List Int) (x6 : List Int) (x12 : Int) (x13 : Int) : Lim (fun k => impl_ComplementSet.l0 k x0 x1 x6 x12 x13) (impl_ComplementSet.L0 x0 x1 x6 x12 x13) := Lim.of fun k => (impl_ComplementSet.mono_l k) x0 x1 x6 x12 x13
noncomputable def impl_ComplementSet.F (a0 : Int) (l1 : List Int) : Option (List Int × Bool) := lim fun k => impl_ComplementSet.f k a0 l1
theorem impl_ComplementSet.F_lim (a0 : Int) (l1 : List Int) : Lim (fun k => impl_ComplementSet.f k a0 l1) (impl_ComplementSet.F a0 l1) := Lim.of fun k => impl_ComplementSet.mono a0 l1 k
theorem impl_ComplementSet.L0_eq (x0 : Int) (x1 : List Int) (x6 : List Int) (x12 : Int) (x13 : Int) : impl_ComplementSet.L0 x0 x1 x6 x12 x13 = (if x13 < x12 then ((slices_Contains_int_int.F x1 x13).bind fun t879 => (if t879 = true then (impl_ComplementSet.L0 x0 x1 x6 x12 (wrap64 (x13 + 1))) else (if x6.length < 17592186044416 then (impl_ComplementSet.L0 x0 x1 (x6 ++ [x13]) x12 (wrap64 (x13 + 1))) else (none)))) else ((impl_IsCircleSet.F x0 x6).bind fun t883 => (if t883 = true then (some (x6, true)) else (some (([] : List Int), false))))) :=
 Lim.step (f := fun k => impl_ComplementSet.l0 (k + 1) x0 x1 x6 x12 x13) (impl_ComplementSet.L0_lim x0 x1 x6 x12 x13) (fun _ => rfl) (by
  simp only [impl_ComplementSet.l0]
  repeat' (first | (with_reducible first | exact Lim.const _ | exact impl_ComplementSet.L0_lim _ _ _ _ _ | exact impl_IsCircleSet.F_lim _ _ | exact slices_Contains_int_int.F_lim _ _ | refine Lim.ite ?_ ?_ | refine Lim.bind ?_ (fun _ => ?_))))
theorem impl_ComplementSet.F_eq (a0 : Int) (l1 : List Int) : impl_ComplementSet.F a0 l1 = ((impl_IsCircleSet.F a0 l1).bind fun t878 => (if t878 = true then (impl_ComplementSet.L0 a0 l1 ([] : List Int) a0 0) else (some (([] : List Int), false)))) :=
 Lim.unique (impl_ComplementSet.F_lim a0 l1) (by
  unfold impl_ComplementSet.f
  repeat' (first | (with_reducible first | exact Lim.const _ | exact impl_ComplementSet.L0_lim _ _ _ _ _ | exact impl_IsCircleSet.F_lim _ _ | refine Lim.ite ?_ ?_ | refine Lim.bind ?_ (fun _ => ?_))))

end Go.Proofs.Ytofjndbpndpjjaa.Fn
namespace Go.Proofs.Ytofjndbpndpjjaa.Fn
open Go.RowKit Go.Proofs.YtofjndbpndpjjaaW.PrintWords Go.Proofs.YtofjndbpndpjjaaW.PrintLast Go.Proofs.YtofjndbpndpjjaaW.PrintMore
attribute [local go_sem] max2_int min2_int max_two min_two max_three min_three max_four min_four   -- for this text's walks alone
set_option linter.unusedVariables false
set_option linter.unusedSimpArgs false

/-! ### impl_counts: function 81 -/
mutual
def impl_counts.l0 : Nat → Int → List Int → List Int → List Int → Int → Int → Option (List Int)
 | 0, _, _, _, _, _, _ => none
 | k + 1, x0, x1, x5, x12, x13, x14 => if x14 < x13 then (if 0 ≤ x14 then (if x14 < (x12.length : Int) then (impl_counts.l1 k x0 x1 x5 x14 (rd x12 x14) x12 x13 x14 x1 (x1.length : Int) 0) else (none)) else (none)) else (some x5)
def impl_counts.l1 : Nat → Int → List Int → List Int → Int → Int → List Int → Int → Int → List Int → Int → Int → Option (List Int)
 | 0, _, _, _, _, _, _, _, _, _, _, _ => none
 | k + 1, x0, x1, x5, x6, x7, x12, x13, x14, x19, x20, x21 => if x21 < x20 then (if 0 ≤ x21 then (if x21 < (x19.length : Int) then (if x6 = x21 then (impl_counts.l1 k x0 x1 x5 x6 x7 x12 x13 x14 x19 x20 (wrap64 (x21 + 1))) else (if x0 = 0 then (none) else (if 0 ≤ (Int.tmod (wrap64 ((wrap64 (x7 - (rd x19 x21))) + x0)) x0) then (if (Int.tmod (wrap64 ((wrap64 (x7 - (rd x19 x21))) + x0)) x0) < (x5.length : Int) then (impl_counts.l1 k x0 x1 (x5.set ((Int.tmod (wrap64 ((wrap64 (x7 - (rd x19 x21))) + x0)) x0) : Int).toNat (wrap64 ((rd x5 (Int.tmod (wrap64 ((wrap64 (x7 - (rd x19 x21))) + x0)) x0)) + 1))) x6 x7 x12 x13 x14 x19 x20 (wrap64 (x21 + 1))) else (none)) else (none)))) else (none)) else (none)) else (impl_counts.l0 k x0 x1 x5 x12 x13 (wrap64 (x14 + 1)))
end
def impl_counts.f (k : Nat) (a0 : Int) (l1 : List Int) : Option (List Int) := if 0 ≤ a0 then (if (a0 : Int).toNat ≤ 35184372088832 then (impl_counts.l0 k a0 l1 (List.replicate (a0 : Int).toNat 0) l1 (l1.length : Int) 0) else (none)) else (none)
theorem impl_counts.mono_l : ∀ k, (∀ y0 y1 y2 y3 y4 y5, LeO (impl_counts.l0 k y0 y1 y2 y3 y4 y5) (impl_counts.l0 (k + 1) y0 y1 y2 y3 y4 y5)) ∧ (∀ y0 y1 y2 y3 y4 y5 y6 y7 y8 y9 y10, LeO (impl_counts.l1 k y0 y1 y2 y3 y4 y5 y6 y7 y8 y9 y10) (impl_counts.l1 (k + 1) y0 y1 y2 y3 y4 y5 y6 y7 y8 y9 y10))
 | 0 => ⟨fun _ _ _ _ _ _ r h => by simp [impl_counts.l0] at h, fun _ _ _ _ _ _ _ _ _ _ _ r h => by simp [impl_counts.l1] at h⟩
 | k + 1 => by
  obtain ⟨ih0, ih1⟩ := impl_counts.mono_l k
  refine ⟨?_, ?_⟩
  ·intro y0 y1 y2 y3 y4 y5
   unfold impl_counts.l0
   repeat' (first | (with_reducible first | exact ih1 _ _ _ _ _ _ _ _ _ _ _ | exact LeO.refl _ | exact LeO.none _ | refine LeO.ite ?_ ?_ | refine LeO.bind ?_ (fun _ => ?_)) | exact ih1 _ _ _ _ _ _ _ _ _ _ _ | exact LeO.none _ | refine LeO.ite ?_ ?_ | refine LeO.bind ?_ (fun _ => ?_))
  ·intro y0 y1 y2 y3 y4 y5 y6 y7 y8 y9 y10
   unfold impl_counts.l1
   repeat' (first | (with_reducible first | exact ih0 _ _ _ _ _ _ | exact ih1 _ _ _ _ _ _ _ _ _ _ _ | exact LeO.refl _ | exact LeO.none _ | refine LeO.ite ?_ ?_ | refine LeO.bind ?_ (fun _ => ?_)) | exact ih0 _ _ _ _ _ _ | exact ih1 _ _ _ _ _ _ _ _ _ _ _ | exact LeO.none _ | refine LeO.ite ?_ ?_ | refine LeO.bind ?_ (fun _ => ?_))
theorem impl_counts.mono : ∀ a0 a1 k, LeO (impl_counts.f k a0 a1) (impl_counts.f (k + 1) a0 a1) := by
 intro a0 a1 k
 obtain ⟨ih0, ih1⟩ := impl_counts.mono_l k
 unfold impl_counts.f
 repeat' (first | (with_reducible first | exact ih0 _ _ _ _ _ _ | exact LeO.refl _ | exact LeO.none _ | refine LeO.ite ?_ ?_ | refine LeO.bind ?_ (fun _ => ?_)) | exact ih0 _ _ _ _ _ _ | exact LeO.none _ | refine LeO.ite ?_ ?_ | refine LeO.bind ?_ (fun _ => ?_))
set_option maxHeartbeats 8000000 in
set_option maxRecDepth 100000 in
theorem impl_counts.calls (k : Nat) (a0 : Int) (A1 : Option Addr) (c1 : Nat) (l1 : List Int) (r : List Int) (w : World) (hr1 : Kd.C (Kd.int .i64) w A1 l1.length l1) (hc1 : l1.length ≤ c1) (h : impl_counts.f k a0 l1 = some r) :
  Calls Try.prog 81 #[.int .i64 a0, .slice A1 l1.length c1] w fun e w' => ∃ v0_ : Value, e = .returned (v0_) ∧ Kd.R (Kd.int .i64) 3 w' w.heap.size (fun _ => True) v0_ r ∧ Below w.heap.size w w' := by
 have HR1 := Aside0.mk hr1
 have HC1 := Aside0.mk hc1
 clear hr1 hc1
 have HB := Aside0.mk (Below.refl w.heap.size w)
 have H := h
 unfold impl_counts.f at H
 clear h
 by_cases c3 : 0 ≤ a0
 ·rw [if_pos c3] at H
  have c3b0 := eq_true c3
  have c3b1 : decide (0 ≤ a0) = true := decide_eq_true c3
  clear c3
  by_cases c4 : (a0 : Int).toNat ≤ 35184372088832
  ·rw [if_pos c4] at H
   have c4b0 := eq_true c4
   have c4b1 : decide ((a0 : Int).toNat ≤ 35184372088832) = true := decide_eq_true c4
   clear c4
   obtain ⟨y752, hy752⟩ : ∃ y_ : List Int, y_ = (List.replicate (a0 : Int).toNat 0) := ⟨_, rfl⟩
   replace H : (impl_counts.l0 k a0 l1 y752 l1 (l1.length : Int) 0) = some r := by first | (rw [hy752]; with_reducible exact H) | (have H2_ := (Option.bind_some _ _).symm.trans H; rw [hy752]; with_reducible exact H2_) | (have H2_ := (Option.bind_some _ _).symm.trans H; with_reducible exact H2_) | with_reducible exact H | (rw [hy752]; exact H) | exact H
   have Ny752 := Aside0.mk hy752
   clear hy752
   have H' := Aside0.mk H
   clear H
   go_enter Try.func81, Try.ntmps81
   go_wp2_with (first | ((with_reducible refine gate_dst (N := 11) rfl ?_); refine Kd.R_make (Kd.int .i64) _ 3 rfl (N := 11) rfl 24 _ _ rfl a0 rfl rfl Try.underlying24 (.int .i64 0) 8 info3 rfl (by decide) (by omega) 0 (ok := fun _ => True) (okp := fun _ => True) rfl (fun _ hk => hk) trivial (of_decide_eq_true (by first | (with_reducible assumption) | assumption)) (Nat.le_trans (Nat.mul_le_mul_right _ (of_decide_eq_true (by first | (with_reducible assumption) | assumption) : a0.toNat ≤ 35184372088832)) (by omega)) (Below.refl _ _) (Nat.le_refl _) ?_; intro v753 w5 ho6 hb hg_ hnew_; clear hg_ hnew_; (first | rw [← Ny752.out] at ho6 | (simp only [Int.reduceToNat] at ho6; rw [← Ny752.out] at ho6)); have HO754 := lowR ho6 HB; replace HB := upB HB hb; clear hb ho6))
   go_loopg [14] k (fun kq v14 w' => ∃ (x5_1 : List Int) (x14_1 : Int), v14 = .int .i64 x14_1 ∧ Aside0 (impl_counts.l0 kq a0 l1 x5_1 l1 (l1.length : Int) x14_1 = some r) ∧ Aside0 (kq ≤ k) ∧ Aside0 (Kd.R (Kd.int .i64) 3 w' w.heap.size (fun _ => True) v753 x5_1) ∧ Aside0 (Below w.heap.size w w'))
   case atStart => exact ⟨(y752), (0), eqd, H', ⟨Nat.le_refl _⟩, ⟨atR HO754⟩, ⟨atB HB⟩⟩
   case round =>
    clear H'
    try clear c1
    try clear p2
    try clear c3
    try clear c3b0
    try clear c3b1
    try clear c4
    try clear c4b0
    try clear c4b1
    obtain ⟨x5_1, x14_1, rfl, HA, HK1, HO_5, HB⟩ := hrel
    cases gk with
    | zero => exact absurd HA.out (by simp [impl_counts.l0])
    | succ k1 =>
     have H := HA.out
     clear HA
     simp only [impl_counts.l0] at H
     by_cases c7 : x14_1 < (l1.length : Int)
     ·rw [if_pos c7] at H
      have c7b0 : decide (x14_1 < (l1.length : Int)) = true := decide_eq_true c7
      clear c7
      by_cases c8 : 0 ≤ x14_1
      ·rw [if_pos c8] at H
       have c8b0 : decide (0 ≤ x14_1) = true := decide_eq_true c8
       clear c8
       by_cases c9 : x14_1 < (l1.length : Int)
       ·rw [if_pos c9] at H
        have c9b0 : decide (x14_1 < (l1.length : Int)) = true := decide_eq_true c9
        clear c9
        have H' := Aside0.mk H
        clear H
        have p755 : 0 ≤ (x14_1 : Int) := ofd
        have q755 : x14_1 < (l1.length : Int) := ofd
        obtain ⟨ad755, e755, hx755_0⟩ := Kd.at_int HR1.out x14_1 p755 q755
        cases e755
        (try replace hx755_0 := (HB.out.cell (World.block_lt_of_cell? w _ hx755_0)).trans hx755_0)
        replace p755 := eq_true p755
        replace q755 := eq_true q755
        go_wp2
        go_loopg [21] k1 (fun kq v21 w' => ∃ (x5_2 : List Int) (x21_2 : Int), v21 = .int .i64 x21_2 ∧ Aside0 (impl_counts.l1 kq a0 l1 x5_2 x14_1 (rd l1 x14_1) l1 (l1.length : Int) x14_1 l1 (l1.length : Int) x21_2 = some r) ∧ Aside0 (kq ≤ k1) ∧ Aside0 (Kd.R (Kd.int .i64) 3 w' w.heap.size (fun _ => True) v753 x5_2) ∧ Aside0 (Below w.heap.size w w'))
        case atStart => exact ⟨(x5_1), (0), eqd, H', ⟨Nat.le_refl _⟩, ⟨atR HO_5⟩, ⟨atB HB⟩⟩
        case round =>
         clear H'
         try clear c1
         try clear p2
         try clear c3
         try clear c3b0
         try clear c3b1
         try clear c4
         try clear c4b0
         try clear c4b1
         try clear c7
         try clear c7b0
         try clear p7
         try clear q7
         try clear hx7
         try clear c8
         try clear c8b0
         try clear c9
         try clear c9b0
         try clear hx755_0
         try clear p2
         try clear p755
         try clear q755
         obtain ⟨x5_2, x21_2, rfl, HA, HK2, HO_5, HB⟩ := hrel
         cases gk with
         | zero => exact absurd HA.out (by simp [impl_counts.l1])
         | succ k2 =>
          have H := HA.out
          clear HA
          simp only [impl_counts.l1] at H
          by_cases c10 : x21_2 < (l1.length : Int)
          ·rw [if_pos c10] at H
           have c10b0 : decide (x21_2 < (l1.length : Int)) = true := decide_eq_true c10
           clear c10
           by_cases c11 : 0 ≤ x21_2
           ·rw [if_pos c11] at H
            have c11b0 : decide (0 ≤ x21_2) = true := decide_eq_true c11
            clear c11
            by_cases c12 : x21_2 < (l1.length : Int)
            ·rw [if_pos c12] at H
             have c12b0 : decide (x21_2 < (l1.length : Int)) = true := decide_eq_true c12
             clear c12
             by_cases c13 : x14_1 = x21_2
             ·rw [if_pos c13] at H
              have c13b0 : (x14_1 == x21_2) = true := beq_iff_eq.mpr c13
              have c13b1 : (x14_1 != x21_2) = false := bne_eq_false_iff_eq.mpr c13
              clear c13
              have H' := Aside0.mk H
              clear H
              have p756 : 0 ≤ (x21_2 : Int) := ofd
              have q756 : x21_2 < (l1.length : Int) := ofd
              obtain ⟨ad756, e756, hx756_0⟩ := Kd.at_int HR1.out x21_2 p756 q756
              obtain rfl : ad755 = ad756 := (by injection e756)
              (try replace hx756_0 := (HB.out.cell (World.block_lt_of_cell? w _ hx756_0)).trans hx756_0)
              replace p756 := eq_true p756
              replace q756 := eq_true q756
              go_wp2
              go_roundg k2
              case measure => have := HK1.out; have := HK2.out; omega
              case rel => exact ⟨(x5_2), (wrap64 (x21_2 + 1)), eqd, H', ⟨by have := HK1.out; have := HK2.out; omega⟩, ⟨atR HO_5⟩, ⟨atB HB⟩⟩
             ·rw [if_neg c13] at H
              have c13b0 : (x14_1 == x21_2) = false := beq_eq_false_iff_ne.mpr c13
              have c13b1 : (x14_1 != x21_2) = true := bne_iff_ne.mpr c13
              by_cases c14 : a0 = 0
              ·rw [if_pos c14] at H
               exact absurd H (by simp)
              ·rw [if_neg c14] at H
               have c14b0 : (a0 == 0) = false := beq_eq_false_iff_ne.mpr c14
               have c14b1 : (a0 != 0) = true := bne_iff_ne.mpr c14
               obtain ⟨ji15, hji15⟩ : ∃ j_ : Int, (Int.tmod (wrap64 ((wrap64 ((rd l1 x14_1) - (rd l1 x21_2))) + a0)) a0) = j_ := ⟨_, rfl⟩
               replace H : (if 0 ≤ (ji15) then (if (ji15) < (x5_2.length : Int) then (impl_counts.l1 k2 a0 l1 (x5_2.set ((ji15) : Int).toNat (wrap64 ((rd x5_2 (ji15)) + 1))) x14_1 (rd l1 x14_1) l1 (l1.length : Int) x14_1 l1 (l1.length : Int) (wrap64 (x21_2 + 1))) else (none)) else (none)) = some r := by first | (rw [hji15] at H; exact H) | (simp only [hji15] at H ⊢; exact H)
               by_cases c16 : 0 ≤ (ji15)
               ·rw [if_pos c16] at H
                have c16b0 : decide (0 ≤ (ji15)) = true := decide_eq_true c16
                clear c16
                by_cases c17 : (ji15) < (x5_2.length : Int)
                ·rw [if_pos c17] at H
                 have c17b0 : decide ((ji15) < (x5_2.length : Int)) = true := decide_eq_true c17
                 clear c17
                 obtain ⟨y758, hy758⟩ : ∃ y_ : List Int, y_ = (x5_2.set ((ji15) : Int).toNat (wrap64 ((rd x5_2 (ji15)) + 1))) := ⟨_, rfl⟩
                 replace H : (impl_counts.l1 k2 a0 l1 y758 x14_1 (rd l1 x14_1) l1 (l1.length : Int) x14_1 l1 (l1.length : Int) (wrap64 (x21_2 + 1))) = some r := by first | (rw [hy758]; with_reducible exact H) | (have H2_ := (Option.bind_some _ _).symm.trans H; rw [hy758]; with_reducible exact H2_) | (have H2_ := (Option.bind_some _ _).symm.trans H; with_reducible exact H2_) | with_reducible exact H | (rw [hy758]; exact H) | exact H
                 have Ny758 := Aside0.mk hy758
                 clear hy758
                 have H' := Aside0.mk H
                 clear H
                 have p756 : 0 ≤ (x21_2 : Int) := ofd
                 have q756 : x21_2 < (l1.length : Int) := ofd
                 obtain ⟨ad756, e756, hx756_0⟩ := Kd.at_int HR1.out x21_2 p756 q756
                 obtain rfl : ad755 = ad756 := (by injection e756)
                 (try replace hx756_0 := (HB.out.cell (World.block_lt_of_cell? w _ hx756_0)).trans hx756_0)
                 replace p756 := eq_true p756
                 replace q756 := eq_true q756
                 obtain ⟨Ao19, co19, eo19⟩ := Kd.R_slice HO_5.out
                 subst eo19
                 have p757 : 0 ≤ ((ji15) : Int) := ofd
                 have q757 : (ji15) < (x5_2.length : Int) := ofd
                 obtain ⟨ad757, e757, hx757_0⟩ := Kd.at_int (Kd.R_reads' HO_5.out).2.2 (ji15) p757 q757
                 cases e757
                 replace p757 := eq_true p757
                 replace q757 := eq_true q757
                 have p18 : 0 ≤ ((ji15) : Int) := ofd
                 have q18 : ((ji15) : Int) < ((x5_2.length : Int) : Int) := ofd
                 obtain ⟨go18, co18, eo18, gb18, gl18, cl18, HG18⟩ := Kd.R_form HO_5.out (by omega)
                 (first | cases eo18 | (injection eo18 with ea_ en_ ec_; (first | subst ea_ | (injection ea_ with ea_; subst ea_)); subst ec_; clear en_))
                 have GB18 := Aside0.mk gb18
                 have GG18 := Aside0.mk HG18
                 clear gb18 gl18 HG18
                 (first | simp only [add_plain] at hx757_0 | skip)
                 obtain ⟨hx18_0, hf18_0⟩ := Kd.R_celln 0 HO_5.out ((ji15) : Int) p18 q18
                 replace p18 := eq_true p18
                 replace q18 := eq_true q18
                 have HP20 := Kd.R_putg HO_5.out ((ji15) : Int) (wrap64 ((rd x5_2 (ji15)) + 1))
                 go_wp2_with (first | ((with_reducible refine gate_store (t := 3) (p := 40) rfl ?_); refine store_event (t := 3) (p := 40) (v := ?vo_w21) (w1 := (wr.setCell ⟨go18, ((ji15) : Int).toNat, none⟩ (.int .i64 (wrap64 ((rd x5_2 (ji15)) + 1))))) ?hg ?ho ?hn ?hr ?_; (case ho => rfl); (case hg => rfl); (case hn => rfl); (case hr => first | (go_simp; done) | (go_simp; rfl)); intro w21 hw; have hg : wr.grownBy w21 (some go18) := (by rw [hw]; exact HP20.2); have hp_ : Kd.R (Kd.int .i64) 3 w21 w.heap.size (fun _ => True) (.slice (some ⟨go18, 0, none⟩) x5_2.length co19) y758 := (by rw [hw, Ny758.out]; exact HP20.1); clear HP20; replace HO_5 := Aside0.mk (hp_); replace HB := Aside0.mk ((by rw [hw]; exact below_set (HB.out) GB18.out : Below w.heap.size w w21)); clear hg hw hp_))
                 first | go_roundg k2 | ((try subst hji15); go_roundg k2)
                 case measure => have := HK1.out; have := HK2.out; omega
                 case rel => exact ⟨(y758), (wrap64 (x21_2 + 1)), eqd, H', ⟨by have := HK1.out; have := HK2.out; omega⟩, ⟨atR HO_5⟩, ⟨atB HB⟩⟩
                ·rw [if_neg c17] at H
                 exact absurd H (by simp)
               ·rw [if_neg c16] at H
                exact absurd H (by simp)
            ·rw [if_neg c12] at H
             exact absurd H (by simp)
           ·rw [if_neg c11] at H
            exact absurd H (by simp)
          ·rw [if_neg c10] at H
           have c10b0 : decide (x21_2 < (l1.length : Int)) = false := decide_eq_false c10
           clear c10
           have H' := Aside0.mk H
           clear H
           go_wp2
           go_roundg k2
           case measure => have := HK1.out; have := HK2.out; omega
           case rel => exact ⟨(x5_2), (wrap64 (x14_1 + 1)), eqd, H', ⟨by have := HK1.out; have := HK2.out; omega⟩, ⟨atR HO_5⟩, ⟨atB HB⟩⟩
       ·rw [if_neg c9] at H
        exact absurd H (by simp)
      ·rw [if_neg c8] at H
       exact absurd H (by simp)
     ·rw [if_neg c7] at H
      have c7b0 : decide (x14_1 < (l1.length : Int)) = false := decide_eq_false c7
      clear c7
      obtain rfl := Option.some.inj H
      go_wp2
      go_ret
      exact ⟨_, eqr, atR HO_5, atB HB⟩
  ·rw [if_neg c4] at H
   exact absurd H (by simp)
 ·rw [if_neg c3] at H
  exact absurd H (by simp)

noncomputable def impl_counts.L0 (x0 : Int) (x1 : List Int) (x5 : List Int) (x12 : List Int) (x13 : Int) (x14 : Int) : Option (List Int) := lim fun k => impl_counts.l0 k x0 x1 x5 x12 x13 x14
theorem impl_counts.L0_lim (x0 : Int) (x1 : List Int) (x5 : List Int) (x12 : List Int) (x13 : Int) (x14 : Int) : Lim (fun k => impl_counts.l0 k x0 x1 x5 x12 x13 x14) (impl_counts.L0 x0 x1 x5 x12 x13 x14) := Lim.of fun k => (impl_counts.mono_l k).1 x0 x1 x5 x12 x13 x14
noncomputable def impl_counts.L1 (x0 : Int) (x1 : List Int) (x5 : List Int) (x6 : Int) (x7 : Int) (x12 : List Int) (x13 : Int) (x14 : Int) (x19 : List Int) (x20 : Int) (x21 : Int) : Option (List Int) := lim fun k => impl_counts.l1 k x0 x1 x5 x6 x7 x12 x13 x14 x19 x20 x21
theorem impl_counts.L1_lim (x0 : Int) (x1 : List Int) (x5 : List Int) (x6 : Int) (x7 : Int) (x12 : List Int) (x13 : Int) (x14 : Int) (x19 : List Int) (x20 : Int) (x21 : Int) : Lim (fun k => impl_counts.l1 k x0 x1 x5 x6 x7 x12 x13 x14 x19 x20 x21) (impl_counts.L1 x0 x1 x5 x6 x7 x12 x13 x14 x19 x20 x21) := Lim.of fun k => (impl_counts.mono_l k).2 x0 x1 x5 x6 x7 x12 x13 x14 x19 x20 x21
noncomputable def impl_counts.F (a0 : Int) (l1 : List Int) : Option (List Int) := lim fun k => impl_counts.f k a0 l1
theorem impl_counts.F_lim (a0 : Int) (l1 : List Int) : Lim (fun k => impl_counts.f k a0 l1) (impl_counts.F a0 l1) := Lim.of fun k => impl_counts.mono a0 l1 k
theorem impl_counts.L0_eq (x0 : Int) (x1 : List Int) (x5 : List Int) (x12 : List Int) (x13 : Int) (x14 : Int) : impl_counts.L0 x0 x1 x5 x12 x13 x14 = (if x14 < x13 then (if 0 ≤ x14 then (if x14 < (x12.length : Int) then (impl_counts.L1 x0 x1 x5 x14 (rd x12 x14) x12 x13 x14 x1 (x1.length : Int) 0) else (none)) else (none)) else (some x5)) :=
 Lim.step (f := fun k => impl_counts.l0 (k + 1) x0 x1 x5 x12 x13 x14) (impl_counts.L0_lim x0 x1 x5 x12 x13 x14) (fun _ => rfl) (by
  simp only [impl_counts.l0]
  repeat' (first | (with_reducible first | exact Lim.const _ | exact impl_counts.L1_lim _ _ _ _ _ _ _ _ _ _ _ | refine Lim.ite ?_ ?_ | refine Lim.bind ?_ (fun _ => ?_))))
theorem impl_counts.L1_eq (x0 : Int) (x1 : List Int) (x5 : List Int) (x6 : Int) (x7 : Int) (x12 : List Int) (x13 : Int) (x14 : Int) (x19 : List Int) (x20 : Int) (x21 : Int) : impl_counts.L1 x0 x1 x5 x6 x7 x12 x13 x14 x19 x20 x21 = (if x21 < x20 then (if 0 ≤ x21 then (if x21 < (x19.length : Int) then (if x6 = x21 then (impl_counts.L1 x0 x1 x5 x6 x7 x12 x13 x14 x19 x20 (wrap64 (x21 + 1))) else (if x0 = 0 then (none) else (if 0 ≤ (Int.tmod (wrap64 ((wrap64 (x7 - (rd x19 x21))) + x0)) x0) then (if (Int.tmod (wrap64 ((wrap64 (x7 - (rd x19 x21))) + x0)) x0) < (x5.length : Int) then (impl_counts.L1 x0 x1 (x5.set ((Int.tmod (wrap64 ((wrap64 (x7 - (rd x19 x21))) + x0)) x0) : Int).toNat (wrap64 ((rd x5 (Int.tmod (wrap64 ((wrap64 (x7 - (rd x19 x21))) + x0)) x0)) + 1))) x6 x7 x12 x13 x14 x19 x20 (wrap64 (x21 + 1))) else (none)) else (none)))) else (none)) else (none)) else (impl_counts.L0 x0 x1 x5 x12 x13 (wrap64 (x14 + 1)))) :=
 Lim.step (f := fun k => impl_counts.l1 (k + 1) x0 x1 x5 x6 x7 x12 x13 x14 x19 x20 x21) (impl_counts.L1_lim x0 x1 x5 x6 x7 x12 x13 x14 x19 x20 x21) (fun _ => rfl) (by
  simp only [impl_counts.l1]
  repeat' (first | (with_reducible first | exact Lim.const _ | exact impl_counts.L0_lim _ _ _ _ _ _ | exact impl_counts.L1_lim _ _ _ _ _ _ _ _ _ _ _ | refine Lim.ite ?_ ?_ | refine Lim.bind ?_ (fun _ => ?_))))
theorem impl_counts.F_eq (a0 : Int) (l1 : List Int) : impl_counts.F a0 l1 = (if 0 ≤ a0 then (if (a0 : Int).toNat ≤ 35184372088832 then (impl_counts.L0 a0 l1 (List.replicate (a0 : Int).toNat 0) l1 (l1.length : Int) 0) else (none)) else (none)) :=
 Lim.unique (impl_counts.F_lim a0 l1) (by
  unfold impl_counts.f
  repeat' (first | (with_reducible first | exact Lim.const _ | exact impl_counts.L0_lim _ _ _ _ _ _ | refine Lim.ite ?_ ?_ | refine Lim.bind ?_ (fun _ => ?_))))

end Go.Proofs.Ytofjndbpndpjjaa.Fn
namespace Go.Proofs.Ytofjndbpndpjjaa.Fn
open Go.RowKit Go.Proofs.YtofjndbpndpjjaaW.PrintWords Go.Proofs.YtofjndbpndpjjaaW.PrintLast Go.Proofs.YtofjndbpndpjjaaW.PrintMore
attribute [local go_sem] max2_int min2_int max_two min_two max_three min_three max_four min_four   -- for this text's walks alone
set_option linter.unusedVariables false
set_option linter.unusedSimpArgs false

/-! ### impl_DifferenceCounts: function 38 -/
def impl_DifferenceCounts.f (k : Nat) (a0 : Int) (l1 : List Int) : Option (List Int × Bool) := (impl_IsCircleSet.f k a0 l1).bind fun t805 => (if t805 = true then ((impl_counts.f k a0 l1).bind fun t806 => (some (t806, true))) else (some (([] : List Int), false)))
theorem impl_DifferenceCounts.mono : ∀ a0 a1 k, LeO (impl_DifferenceCounts.f k a0 a1) (impl_DifferenceCounts.f (k + 1) a0 a1) := by
 intro a0 a1 k
 unfold impl_DifferenceCounts.f
 repeat' (first | (with_reducible first | exact impl_IsCircleSet.mono _ _ _ | exact impl_counts.mono _ _ _ | exact LeO.refl _ | exact LeO.none _ | refine LeO.ite ?_ ?_ | refine LeO.bind ?_ (fun _ => ?_)) | exact impl_IsCircleSet.mono _ _ _ | exact impl_counts.mono _ _ _ | exact LeO.none _ | refine LeO.ite ?_ ?_ | refine LeO.bind ?_ (fun _ => ?_))
set_option maxHeartbeats 8000000 in
set_option maxRecDepth 100000 in
theorem impl_DifferenceCounts.calls (k : Nat) (a0 : Int) (A1 : Option Addr) (c1 : Nat) (l1 : List Int) (r1 : List Int) (r2 : Bool) (w : World) (hr1 : Kd.C (Kd.int .i64) w A1 l1.length l1) (hc1 : l1.length ≤ c1) (h : impl_DifferenceCounts.f k a0 l1 = some (r1, r2)) :
  Calls Try.prog 38 #[.int .i64 a0, .slice A1 l1.length c1] w fun e w' => ∃ v0_ : Value, e = .returned (.tuple #[v0_, .bool r2]) ∧ Kd.R (Kd.int .i64) 3 w' w.heap.size (fun _ => True) v0_ r1 ∧ Below w.heap.size w w' := by
 have HR1 := Aside0.mk hr1
 have HC1 := Aside0.mk hc1
 clear hr1 hc1
 have HB := Aside0.mk (Below.refl w.heap.size w)
 have H := h
 unfold impl_DifferenceCounts.f at H
 clear h
 replace H := Option.bind_eq_some_iff.mp H
 obtain ⟨t805, A30, H⟩ := H
 replace H : (if t805 = true then ((impl_counts.f k a0 l1).bind fun t806 => (some (t806, true))) else (some (([] : List Int), false))) = some (r1, r2) := H
 have A3 := Aside0.mk A30
 clear A30
 by_cases c4 : t805 = true
 ·subst c4
  have H1 : ((impl_counts.f k a0 l1).bind fun t806 => (some (t806, true))) = some (r1, r2) := by rw [if_pos rfl] at H; exact H
  clear H
  have H := H1
  clear H1
  replace H := Option.bind_eq_some_iff.mp H
  obtain ⟨t806, A50, H⟩ := H
  replace H : (some (t806, true)) = some (r1, r2) := H
  have A5 := Aside0.mk A50
  clear A50
  simp only [Option.some.injEq, Prod.mk.injEq] at H
  obtain ⟨rfl, rfl⟩ := H
  go_enter Try.func38, Try.ntmps38
  go_wp2_with (first | ((with_reducible refine gate_callee (f := 45) rfl ?_); refine goesA (some 8) Try.func45 #[.int .i64 a0, .slice A1 l1.length c1] ?_; (with_reducible refine (impl_IsCircleSet.calls k a0 _ _ l1 true _ ?side1 ?side2 A3.out).mono ?_); (case side1 => repeat (first | exact HR1.out | (with_reducible refine Kd.C_alloc ?_ _) | (with_reducible refine Kd.C_drewN ?_ _) | (with_reducible refine Kd.C_drew ?_))); (case side2 => exact HC1.out); rintro e w' ⟨rfl, ⟨nd, rfl⟩⟩; refine ⟨_, rfl, ?_⟩) | ((with_reducible refine gate_callee (f := 81) rfl ?_); refine goesA (some 12) Try.func81 #[.int .i64 a0, .slice A1 l1.length c1] ?_; (with_reducible refine (impl_counts.calls k a0 _ _ l1 t806 _ ?side1 ?side2 A5.out).mono ?_); (case side1 => repeat (first | exact HR1.out | (with_reducible refine Kd.C_alloc ?_ _) | (with_reducible refine Kd.C_drewN ?_ _) | (with_reducible refine Kd.C_drew ?_))); (case side2 => exact HC1.out); rintro e w6 ⟨v807, rfl, ho0, hb⟩; refine ⟨_, rfl, ?_⟩; have HO808 := lowR ho0 HB; replace HB := upB HB hb; (try clear hb); (try clear hb2); (try clear hk); (try clear hi); (try clear ho0)))
  go_ret2
  exact ⟨_, eqr, atR HO808, atB HB⟩
 ·replace c4 := Bool.eq_false_iff.mpr c4
  subst c4
  have H1 : (some (([] : List Int), false)) = some (r1, r2) := by rw [if_neg (show ¬ (false = true) by decide)] at H; exact H
  clear H
  have H := H1
  clear H1
  simp only [Option.some.injEq, Prod.mk.injEq] at H
  obtain ⟨rfl, rfl⟩ := H
  go_enter Try.func38, Try.ntmps38
  go_wp2_with (first | ((with_reducible refine gate_callee (f := 45) rfl ?_); refine goesA (some 8) Try.func45 #[.int .i64 a0, .slice A1 l1.length c1] ?_; (with_reducible refine (impl_IsCircleSet.calls k a0 _ _ l1 false _ ?side1 ?side2 A3.out).mono ?_); (case side1 => repeat (first | exact HR1.out | (with_reducible refine Kd.C_alloc ?_ _) | (with_reducible refine Kd.C_drewN ?_ _) | (with_reducible refine Kd.C_drew ?_))); (case side2 => exact HC1.out); rintro e w' ⟨rfl, ⟨nd, rfl⟩⟩; refine ⟨_, rfl, ?_⟩))
  go_ret2
  exact ⟨_, eqr, by first | exact Kd.R_nil _ _ _ _ _ | exact Kd.N_nil _ _ _ _ _ | exact Kd.V_nil _ _ _ _ _ | exact Kd.Q_nil _ _ _ _ _ | exact Kd.S_nil _ _ _ _ _, atB HB⟩

noncomputable def impl_DifferenceCounts.F (a0 : Int) (l1 : List Int) : Option (List Int × Bool) := lim fun k => impl_DifferenceCounts.f k a0 l1
theorem impl_DifferenceCounts.F_lim (a0 : Int) (l1 : List Int) : Lim (fun k => impl_DifferenceCounts.f k a0 l1) (impl_DifferenceCounts.F a0 l1) := Lim.of fun k => impl_DifferenceCounts.mono a0 l1 k
theorem impl_DifferenceCounts.F_eq (a0 : Int) (l1 : List Int) : impl_DifferenceCounts.F a0 l1 = ((impl_IsCircleSet.F a0 l1).bind fun t805 => (if t805 = true then ((impl_counts.F a0 l1).bind fun t806 => (some (t806, true))) else (some (([] : List Int), false)))) :=
 Lim.unique (impl_DifferenceCounts.F_lim a0 l1) (by
  unfold impl_DifferenceCounts.f
  repeat' (first | (with_reducible first | exact Lim.const _ | exact impl_IsCircleSet.F_lim _ _ | exact impl_counts.F_lim _ _ | refine Lim.ite ?_ ?_ | refine Lim.bind ?_ (fun _ => ?_))))

end Go.Proofs.Ytofjndbpndpjjaa.Fn
namespace Go.Proofs.Ytofjndbpndpjjaa.Fn
open Go.RowKit Go.Proofs.YtofjndbpndpjjaaW.PrintWords Go.Proofs.YtofjndbpndpjjaaW.PrintLast Go.Proofs.YtofjndbpndpjjaaW.PrintMore
attribute [local go_sem] max2_int min2_int max_two min_two max_three min_three max_four min_four   -- for this text's walks alone
set_option linter.unusedVariables false
set_option linter.unusedSimpArgs false

/-! ### slices_Max_int_int: function 92 -/
def slices_Max_int_int.l0 : Nat → List Int → Int → Int → Option (Int)
 | 0, _, _, _ => none
 | k + 1, x0, x3, x4 => if x4 < (x0.length : Int) then (if 0 ≤ x4 then (slices_Max_int_int.l0 k x0 (mx x3 (rd x0 x4)) (wrap64 (x4 + 1))) else (none)) else (some x3)
def slices_Max_int_int.f (k : Nat) (l0 : List Int) : Option (Int) := if (l0.length : Int) < 1 then (none) else (if 0 < (l0.length : Int) then (slices_Max_int_int.l0 k l0 (rd l0 0) 1) else (none))
theorem slices_Max_int_int.mono_l : ∀ k, (∀ y0 y1 y2, LeO (slices_Max_int_int.l0 k y0 y1 y2) (slices_Max_int_int.l0 (k + 1) y0 y1 y2))
 | 0 => fun _ _ _ r h => by simp [slices_Max_int_int.l0] at h
 | k + 1 => by
  have ih0 := slices_Max_int_int.mono_l k
  ·intro y0 y1 y2
   unfold slices_Max_int_int.l0
   repeat' (first | (with_reducible first | exact ih0 _ _ _ | exact LeO.refl _ | exact LeO.none _ | refine LeO.ite ?_ ?_ | refine LeO.bind ?_ (fun _ => ?_)) | exact ih0 _ _ _ | exact LeO.none _ | refine LeO.ite ?_ ?_ | refine LeO.bind ?_ (fun _ => ?_))
theorem slices_Max_int_int.mono : ∀ a0 k, LeO (slices_Max_int_int.f k a0) (slices_Max_int_int.f (k + 1) a0) := by
 intro a0 k
 have ih0 := slices_Max_int_int.mono_l k
 unfold slices_Max_int_int.f
 repeat' (first | (with_reducible first | exact ih0 _ _ _ | exact LeO.refl _ | exact LeO.none _ | refine LeO.ite ?_ ?_ | refine LeO.bind ?_ (fun _ => ?_)) | exact ih0 _ _ _ | exact LeO.none _ | refine LeO.ite ?_ ?_ | refine LeO.bind ?_ (fun _ => ?_))
set_option maxHeartbeats 8000000 in
set_option maxRecDepth 100000 in
theorem slices_Max_int_int.calls (k : Nat) (A0 : Option Addr) (c0 : Nat) (l0 : List Int) (r : Int) (w : World) (hr0 : Kd.C (Kd.int .i64) w A0 l0.length l0) (hc0 : l0.length ≤ c0) (h : slices_Max_int_int.f k l0 = some r) :
  Calls Try.prog 92 #[.slice A0 l0.length c0] w fun e w' => e = .returned (.int .i64 r) ∧ Below w.heap.size w w' := by
 have HR0 := Aside0.mk hr0
 have HC0 := Aside0.mk hc0
 clear hr0 hc0
 have HB := Aside0.mk (Below.refl w.heap.size w)
 have H := h
 unfold slices_Max_int_int.f at H
 clear h
 by_cases c2 : (l0.length : Int) < 1
 ·rw [if_pos c2] at H
  exact absurd H (by simp)
 ·rw [if_neg c2] at H
  have c2b0 : decide ((l0.length : Int) < 1) = false := decide_eq_false c2
  have c2b1 : decide (l0.length < 1) = false := decide_eq_false (by omega)
  clear c2
  by_cases c3 : 0 < (l0.length : Int)
  ·rw [if_pos c3] at H
   have c3b0 : decide (0 < (l0.length : Int)) = true := decide_eq_true c3
   have c3b1 : decide (0 < l0.length) = true := decide_eq_true (by omega)
   clear c3
   have H' := Aside0.mk H
   clear H
   have p238 : 0 ≤ (0 : Int) := (by omega)
   have q238 : 0 < (l0.length : Int) := ofd
   obtain ⟨ad238, e238, hx238_0⟩ := Kd.at_int HR0.out 0 p238 q238
   cases e238
   have qi238 : (0 < l0.length) = True := eq_true (by omega)
   (try rw [show ((0 : Int)).toNat = 0 from rfl] at hx238_0)
   (try rw [Addr.add_zero'] at hx238_0)
   replace p238 := eq_true p238
   replace q238 := eq_true q238
   go_enter Try.func92, Try.ntmps92
   go_wp2
   go_loopg [3, 4] k (fun kq v3 v4 w' => ∃ (x3_1 : Int) (x4_1 : Int), v3 = .int .i64 x3_1 ∧ v4 = .int .i64 x4_1 ∧ Aside0 (slices_Max_int_int.l0 kq l0 x3_1 x4_1 = some r) ∧ Aside0 (kq ≤ k) ∧ Aside0 (Below w.heap.size w w'))
   case atStart => exact ⟨(rd l0 0), (1), eqd, eqd, H', ⟨Nat.le_refl _⟩, ⟨atB HB⟩⟩
   case round =>
    clear H'
    try clear c2
    try clear c2b0
    try clear c2b1
    try clear p2
    try clear q2
    try clear hx2
    try clear qi2
    try clear c3
    try clear c3b0
    try clear c3b1
    try clear hx238_0
    try clear p238
    try clear q238
    obtain ⟨x3_1, x4_1, rfl, rfl, HA, HK1, HB⟩ := hrel
    cases gk with
    | zero => exact absurd HA.out (by simp [slices_Max_int_int.l0])
    | succ k1 =>
     have H := HA.out
     clear HA
     simp only [slices_Max_int_int.l0] at H
     by_cases c4 : x4_1 < (l0.length : Int)
     ·rw [if_pos c4] at H
      have c4b0 : decide (x4_1 < (l0.length : Int)) = true := decide_eq_true c4
      clear c4
      by_cases c5 : 0 ≤ x4_1
      ·rw [if_pos c5] at H
       have c5b0 : decide (0 ≤ x4_1) = true := decide_eq_true c5
       clear c5
       obtain ⟨ji6, hji6⟩ : ∃ j_ : Int, (mx x3_1 (rd l0 x4_1)) = j_ := ⟨_, rfl⟩
       replace H : (slices_Max_int_int.l0 k1 l0 ji6 (wrap64 (x4_1 + 1))) = some r := by first | (rw [hji6] at H; exact H) | (simp only [hji6] at H ⊢; exact H)
       have hji6_ : (if x3_1 < (rd l0 x4_1) then (rd l0 x4_1) else x3_1) = ji6 := hji6
       have H' := Aside0.mk H
       clear H
       have p239 : 0 ≤ (x4_1 : Int) := ofd
       have q239 : x4_1 < (l0.length : Int) := ofd
       obtain ⟨ad239, e239, hx239_0⟩ := Kd.at_int HR0.out x4_1 p239 q239
       obtain rfl : ad238 = ad239 := (by injection e239)
       (try replace hx239_0 := (HB.out.cell (World.block_lt_of_cell? w _ hx239_0)).trans hx239_0)
       replace p239 := eq_true p239
       replace q239 := eq_true q239
       go_wp2
       first | go_roundg k1 | ((try subst hji6); go_roundg k1)
       case measure => have := HK1.out; omega
       case rel => exact ⟨(ji6), (wrap64 (x4_1 + 1)), (by first | rfl | (simp; done) | (simp only [← hji6] <;> (first | rfl | simp)) | (simp [*]; done)), eqd, H', ⟨by have := HK1.out; omega⟩, ⟨atB HB⟩⟩
      ·rw [if_neg c5] at H
       exact absurd H (by simp)
     ·rw [if_neg c4] at H
      have c4b0 : decide (x4_1 < (l0.length : Int)) = false := decide_eq_false c4
      clear c4
      obtain rfl := Option.some.inj H
      go_wp2
      go_ret
      exact ⟨eqr, atB HB⟩
  ·rw [if_neg c3] at H
   exact absurd H (by simp)

noncomputable def slices_Max_int_int.L0 (x0 : List Int) (x3 : Int) (x4 : Int) : Option (Int) := lim fun k => slices_Max_int_int.l0 k x0 x3 x4
theorem slices_Max_int_int.L0_lim (x0 : List Int) (x3 : Int) (x4 : Int) : Lim (fun k => slices_Max_int_int.l0 k x0 x3 x4) (slices_Max_int_int.L0 x0 x3 x4) := Lim.of fun k => (slices_Max_int_int.mono_l k) x0 x3 x4
noncomputable def slices_Max_int_int.F (l0 : List Int) : Option (Int) := lim fun k => slices_Max_int_int.f k l0
theorem slices_Max_int_int.F_lim (l0 : List Int) : Lim (fun k => slices_Max_int_int.f k l0) (slices_Max_int_int.F l0) := Lim.of fun k => slices_Max_int_int.mono l0 k
theorem slices_Max_int_int.L0_eq (x0 : List Int) (x3 : Int) (x4 : Int) : slices_Max_int_int.L0 x0 x3 x4 = (if x4 < (x0.length : Int) then (if 0 ≤ x4 then (slices_Max_int_int.L0 x0 (mx x3 (rd x0 x4)) (wrap64 (x4 + 1))) else (none)) else (some x3)) :=
 Lim.step (f := fun k => slices_Max_int_int.l0 (k + 1) x0 x3 x4) (slices_Max_int_int.L0_lim x0 x3 x4) (fun _ => rfl) (by
  simp only [slices_Max_int_int.l0]
  repeat' (first | (with_reducible first | exact Lim.const _ | exact slices_Max_int_int.L0_lim _ _ _ | refine Lim.ite ?_ ?_ | refine Lim.bind ?_ (fun _ => ?_))))
theorem slices_Max_int_int.F_eq (l0 : List Int) : slices_Max_int_int.F l0 = (if (l0.length : Int) < 1 then (none) else (if 0 < (l0.length : Int) then (slices_Max_int_int.L0 l0 (rd l0 0) 1) else (none))) :=
 Lim.unique (slices_Max_int_int.F_lim l0) (by
  unfold slices_Max_int_int.f
  repeat' (first | (with_reducible first | exact Lim.const _ | exact slices_Max_int_int.L0_lim _ _ _ | refine Lim.ite ?_ ?_ | refine Lim.bind ?_ (fun _ => ?_))))

end Go.Proofs.Ytofjndbpndpjjaa.Fn
namespace Go.Proofs.Ytofjndbpndpjjaa.Fn
open Go.RowKit Go.Proofs.YtofjndbpndpjjaaW.PrintWords Go.Proofs.YtofjndbpndpjjaaW.PrintLast Go.Proofs.YtofjndbpndpjjaaW.PrintMore
attribute [local go_sem] max2_int min2_int max_two min_two max_three min_three max_four min_four   -- for this text's walks alone
set_option linter.unusedVariables false
set_option linter.unusedSimpArgs false

/-! ### impl_IsAroundRuler: function 42 -/
def impl_IsAroundRuler.f (k : Nat) (a0 : Int) (l1 : List Int) : Option (Bool × Bool) := (impl_IsCircleSet.f k a0 l1).bind fun t856 => (if t856 = true then ((impl_counts.f k a0 l1).bind fun t857 => ((slices_Max_int_int.f k t857).bind fun t860 => (some (decide (t860 ≤ 1), true)))) else (some (false, false)))
theorem impl_IsAroundRuler.mono : ∀ a0 a1 k, LeO (impl_IsAroundRuler.f k a0 a1) (impl_IsAroundRuler.f (k + 1) a0 a1) := by
 intro a0 a1 k
 unfold impl_IsAroundRuler.f
 repeat' (first | (with_reducible first | exact impl_IsCircleSet.mono _ _ _ | exact impl_counts.mono _ _ _ | exact slices_Max_int_int.mono _ _ | exact LeO.refl _ | exact LeO.none _ | refine LeO.ite ?_ ?_ | refine LeO.bind ?_ (fun _ => ?_)) | exact impl_IsCircleSet.mono _ _ _ | exact impl_counts.mono _ _ _ | exact slices_Max_int_int.mono _ _ | exact LeO.none _ | refine LeO.ite ?_ ?_ | refine LeO.bind ?_ (fun _ => ?_))
set_option maxHeartbeats 8000000 in
set_option maxRecDepth 100000 in
theorem impl_IsAroundRuler.calls (k : Nat) (a0 : Int) (A1 : Option Addr) (c1 : Nat) (l1 : List Int) (r1 : Bool) (r2 : Bool) (w : World) (hr1 : Kd.C (Kd.int .i64) w A1 l1.length l1) (hc1 : l1.length ≤ c1) (h : impl_IsAroundRuler.f k a0 l1 = some (r1, r2)) :
  Calls Try.prog 42 #[.int .i64 a0, .slice A1 l1.length c1] w fun e w' => e = .returned (.tuple #[.bool r1, .bool r2]) ∧ Below w.heap.size w w' := by
 have HR1 := Aside0.mk hr1
 have HC1 := Aside0.mk hc1
 clear hr1 hc1
 have HB := Aside0.mk (Below.refl w.heap.size w)
 have H := h
 unfold impl_IsAroundRuler.f at H
 clear h
 replace H := Option.bind_eq_some_iff.mp H
 obtain ⟨t856, A30, H⟩ := H
 replace H : (if t856 = true then ((impl_counts.f k a0 l1).bind fun t857 => ((slices_Max_int_int.f k t857).bind fun t860 => (some (decide (t860 ≤ 1), true)))) else (some (false, false))) = some (r1, r2) := H
 have A3 := Aside0.mk A30
 clear A30
 by_cases c4 : t856 = true
 ·subst c4
  have H1 : ((impl_counts.f k a0 l1).bind fun t857 => ((slices_Max_int_int.f k t857).bind fun t860 => (some (decide (t860 ≤ 1), true)))) = some (r1, r2) := by rw [if_pos rfl] at H; exact H
  clear H
  have H := H1
  clear H1
  replace H := Option.bind_eq_some_iff.mp H
  obtain ⟨t857, A50, H⟩ := H
  replace H : ((slices_Max_int_int.f k t857).bind fun t860 => (some (decide (t860 ≤ 1), true))) = some (r1, r2) := H
  have A5 := Aside0.mk A50
  clear A50
  replace H := Option.bind_eq_some_iff.mp H
  obtain ⟨t860, A60, H⟩ := H
  replace H : (some (decide (t860 ≤ 1), true)) = some (r1, r2) := H
  have A6 := Aside0.mk A60
  clear A60
  simp only [Option.some.injEq, Prod.mk.injEq] at H
  obtain ⟨rfl, rfl⟩ := H
  go_enter Try.func42, Try.ntmps42
  go_wp2_with (first | ((with_reducible refine gate_callee (f := 45) rfl ?_); refine goesA (some 8) Try.func45 #[.int .i64 a0, .slice A1 l1.length c1] ?_; (with_reducible refine (impl_IsCircleSet.calls k a0 _ _ l1 true _ ?side1 ?side2 A3.out).mono ?_); (case side1 => repeat (first | exact HR1.out | (with_reducible refine Kd.C_alloc ?_ _) | (with_reducible refine Kd.C_drewN ?_ _) | (with_reducible refine Kd.C_drew ?_))); (case side2 => exact HC1.out); rintro e w' ⟨rfl, ⟨nd, rfl⟩⟩; refine ⟨_, rfl, ?_⟩) | ((with_reducible refine gate_callee (f := 81) rfl ?_); refine goesA (some 12) Try.func81 #[.int .i64 a0, .slice A1 l1.length c1] ?_; (with_reducible refine (impl_counts.calls k a0 _ _ l1 t857 _ ?side1 ?side2 A5.out).mono ?_); (case side1 => repeat (first | exact HR1.out | (with_reducible refine Kd.C_alloc ?_ _) | (with_reducible refine Kd.C_drewN ?_ _) | (with_reducible refine Kd.C_drew ?_))); (case side2 => exact HC1.out); rintro e w7 ⟨v858, rfl, ho0, hb⟩; refine ⟨_, rfl, ?_⟩; have HO859 := lowR ho0 HB; replace HB := upB HB hb; (try clear hb); (try clear hb2); (try clear hk); (try clear hi); (try clear ho0); obtain ⟨Ao8, co8, eo8⟩ := Kd.R_slice HO859.out; subst eo8) | ((with_reducible refine gate_callee (f := 92) rfl ?_); refine goesA (some 13) Try.func92 #[.slice Ao8 t857.length co8] ?_; (with_reducible refine (slices_Max_int_int.calls k _ _ t857 t860 _ ?side1 ?side2 A6.out).mono ?_); (case side1 => exact atRC HO859); (case side2 => exact (Kd.R_reads' HO859.out).2.1); rintro e w9 ⟨rfl, hb⟩; refine ⟨_, rfl, ?_⟩; replace HO859 := upR HO859 hb; replace HB := upB HB hb; (try clear hb); (try clear hb2); (try clear hk); (try clear hi)))
  go_ret2
  exact ⟨eqr, atB HB⟩
 ·replace c4 := Bool.eq_false_iff.mpr c4
  subst c4
  have H1 : (some (false, false)) = some (r1, r2) := by rw [if_neg (show ¬ (false = true) by decide)] at H; exact H
  clear H
  have H := H1
  clear H1
  simp only [Option.some.injEq, Prod.mk.injEq] at H
  obtain ⟨rfl, rfl⟩ := H
  go_enter Try.func42, Try.ntmps42
  go_wp2_with (first | ((with_reducible refine gate_callee (f := 45) rfl ?_); refine goesA (some 8) Try.func45 #[.int .i64 a0, .slice A1 l1.length c1] ?_; (with_reducible refine (impl_IsCircleSet.calls k a0 _ _ l1 false _ ?side1 ?side2 A3.out).mono ?_); (case side1 => repeat (first | exact HR1.out | (with_reducible refine Kd.C_alloc ?_ _) | (with_reducible refine Kd.C_drewN ?_ _) | (with_reducible refine Kd.C_drew ?_))); (case side2 => exact HC1.out); rintro e w' ⟨rfl, ⟨nd, rfl⟩⟩; refine ⟨_, rfl, ?_⟩))
  go_ret2
  exact ⟨eqr, atB HB⟩

noncomputable def impl_IsAroundRuler.F (a0 : Int) (l1 : List Int) : Option (Bool × Bool) := lim fun k => impl_IsAroundRuler.f k a0 l1
theorem impl_IsAroundRuler.F_lim (a0 : Int) (l1 : List Int) : Lim (fun k => impl_IsAroundRuler.f k a0 l1) (impl_IsAroundRuler.F a0 l1) := Lim.of fun k => impl_IsAroundRuler.mono a0 l1 k
theorem impl_IsAroundRuler.F_eq (a0 : Int) (l1 : List Int) : impl_IsAroundRuler.F a0 l1 = ((impl_IsCircleSet.F a0 l1).bind fun t856 => (if t856 = true then ((impl_counts.F a0 l1).bind fun t857 => ((slices_Max_int_int.F t857).bind fun t860 => (some (decide (t860 ≤ 1), true)))) else (some (false, false)))) :=
 Lim.unique (impl_IsAroundRuler.F_lim a0 l1) (by
  unfold impl_IsAroundRuler.f
  repeat' (first | (with_reducible first | exact Lim.const _ | exact impl_IsCircleSet.F_lim _ _ | exact impl_counts.F_lim _ _ | exact slices_Max_int_int.F_lim _ | refine Lim.ite ?_ ?_ | refine Lim.bind ?_ (fun _ => ?_))))

end Go.Proofs.Ytofjndbpndpjjaa.Fn
namespace Go.Proofs.Ytofjndbpndpjjaa.Fn
open Go.RowKit Go.Proofs.YtofjndbpndpjjaaW.PrintWords Go.Proofs.YtofjndbpndpjjaaW.PrintLast Go.Proofs.YtofjndbpndpjjaaW.PrintMore
attribute [local go_sem] max2_int min2_int max_two min_two max_three min_three max_four min_four   -- for this text's walks alone
set_option linter.unusedVariables false
set_option linter.unusedSimpArgs false

/-! ### impl_even: function 80 -/
def impl_even.l0 : Nat → List Int → List Int → Int → Int → Option (Int)
 | 0, _, _, _, _ => none
 | k + 1, x0, x6, x7, x8 => if x8 < x7 then (if 0 ≤ x8 then (if x8 < (x6.length : Int) then (if 1 < (x0.length : Int) then (if (rd x6 x8) = (rd x0 1) then (impl_even.l0 k x0 x6 x7 (wrap64 (x8 + 1))) else (some 0)) else (none)) else (none)) else (none)) else (if 1 < (x0.length : Int) then (some (rd x0 1)) else (none))
def impl_even.f (k : Nat) (l0 : List Int) : Option (Int) := if 1 ≤ (l0.length : Int) then (impl_even.l0 k l0 (l0.drop 1) ((l0.drop 1).length : Int) 0) else (none)
theorem impl_even.mono_l : ∀ k, (∀ y0 y1 y2 y3, LeO (impl_even.l0 k y0 y1 y2 y3) (impl_even.l0 (k + 1) y0 y1 y2 y3))
 | 0 => fun _ _ _ _ r h => by simp [impl_even.l0] at h
 | k + 1 => by
  have ih0 := impl_even.mono_l k
  ·intro y0 y1 y2 y3
   unfold impl_even.l0
   repeat' (first | (with_reducible first | exact ih0 _ _ _ _ | exact LeO.refl _ | exact LeO.none _ | refine LeO.ite ?_ ?_ | refine LeO.bind ?_ (fun _ => ?_)) | exact ih0 _ _ _ _ | exact LeO.none _ | refine LeO.ite ?_ ?_ | refine LeO.bind ?_ (fun _ => ?_))
theorem impl_even.mono : ∀ a0 k, LeO (impl_even.f k a0) (impl_even.f (k + 1) a0) := by
 intro a0 k
 have ih0 := impl_even.mono_l k
 unfold impl_even.f
 repeat' (first | (with_reducible first | exact ih0 _ _ _ _ | exact LeO.refl _ | exact LeO.none _ | refine LeO.ite ?_ ?_ | refine LeO.bind ?_ (fun _ => ?_)) | exact ih0 _ _ _ _ | exact LeO.none _ | refine LeO.ite ?_ ?_ | refine LeO.bind ?_ (fun _ => ?_))
set_option maxHeartbeats 8000000 in
set_option maxRecDepth 100000 in
theorem impl_even.calls (k : Nat) (A0 : Option Addr) (c0 : Nat) (l0 : List Int) (r : Int) (w : World) (hr0 : Kd.C (Kd.int .i64) w A0 l0.length l0) (hc0 : l0.length ≤ c0) (h : impl_even.f k l0 = some r) :
  Calls Try.prog 80 #[.slice A0 l0.length c0] w fun e w' => e = .returned (.int .i64 r) ∧ Drawn0 w w' := by
 have HR0 := Aside0.mk hr0
 have HC0 := Aside0.mk hc0
 clear hr0 hc0
 have H := h
 unfold impl_even.f at H
 clear h
 by_cases c2 : 1 ≤ (l0.length : Int)
 ·rw [if_pos c2] at H
  have c2b0 := eq_true c2
  have c2b1 : decide (1 ≤ (l0.length : Int)) = true := decide_eq_true c2
  clear c2
  have H' := Aside0.mk H
  clear H
  obtain ⟨i03, hi03, _, hsz3, _⟩ := info_parts info3
  obtain ⟨A3, hcut3, hA3, hC3⟩ := print_drop_of (P := Try.prog) (Value.int .i64) 0 24 3 .i64 Try.underlying24 hi03 hsz3 A0 c0 l0 1 (by omega) (of_decide_eq_true (by first | (with_reducible assumption) | assumption)) HC0.out
  have HR748 := Aside0.mk (Kd.C_of_reads (h1 := fun _ => rfl) (hA3 _ (Kd.reads_of_C HR0.out)))
  have HC748 := Aside0.mk hC3
  clear hA3 hC3 hi03 hsz3
  go_enter Try.func80, Try.ntmps80
  go_wp2
  go_loopg [8] k (fun kq v8 w' => ∃ (x8_1 : Int), v8 = .int .i64 x8_1 ∧ Aside0 (impl_even.l0 kq l0 (l0.drop 1) ((l0.drop 1).length : Int) x8_1 = some r) ∧ Aside0 (kq ≤ k) ∧ Drawn0 w w')
  case atStart => exact ⟨(0), eqd, H', ⟨Nat.le_refl _⟩, by repeat (first | exact Drawn0.refl _ | apply Drawn0.step)⟩
  case round =>
   clear H'
   try clear c2
   try clear c2b0
   try clear c2b1
   try clear p2
   obtain ⟨x8_1, rfl, HA, HK1, ⟨m1, rfl⟩⟩ := hrel
   cases gk with
   | zero => exact absurd HA.out (by simp [impl_even.l0])
   | succ k1 =>
    have H := HA.out
    clear HA
    simp only [impl_even.l0] at H
    by_cases c4 : x8_1 < ((l0.drop 1).length : Int)
    ·rw [if_pos c4] at H
     have c4b0 : decide (x8_1 < ((l0.drop 1).length : Int)) = true := decide_eq_true c4
     have c4b0m := c4b0; (try rw [List.length_drop] at c4b0m); (try rw [List.drop_one] at c4b0m)
     clear c4
     by_cases c5 : 0 ≤ x8_1
     ·rw [if_pos c5] at H
      have c5b0 : decide (0 ≤ x8_1) = true := decide_eq_true c5
      clear c5
      by_cases c6 : x8_1 < ((l0.drop 1).length : Int)
      ·rw [if_pos c6] at H
       have c6b0 : decide (x8_1 < ((l0.drop 1).length : Int)) = true := decide_eq_true c6
       have c6b0m := c6b0; (try rw [List.length_drop] at c6b0m); (try rw [List.drop_one] at c6b0m)
       clear c6
       by_cases c7 : 1 < (l0.length : Int)
       ·rw [if_pos c7] at H
        have c7b0 : decide (1 < (l0.length : Int)) = true := decide_eq_true c7
        have c7b1 : decide (1 < l0.length) = true := decide_eq_true (by omega)
        clear c7
        by_cases c8 : (rd (l0.drop 1) x8_1) = (rd l0 1)
        ·rw [if_pos c8] at H
         have c8b0 : ((rd (l0.drop 1) x8_1) == (rd l0 1)) = true := beq_iff_eq.mpr c8
         have c8b0m := c8b0; (try rw [List.length_drop] at c8b0m); (try rw [List.drop_one] at c8b0m)
         have c8b1 : ((rd (l0.drop 1) x8_1) != (rd l0 1)) = false := bne_eq_false_iff_eq.mpr c8
         have c8b1m := c8b1; (try rw [List.length_drop] at c8b1m); (try rw [List.drop_one] at c8b1m)
         clear c8
         have H' := Aside0.mk H
         clear H
         have p749 : 0 ≤ (x8_1 : Int) := ofd
         have q749 : x8_1 < ((l0.drop 1).length : Int) := ofd
         obtain ⟨ad749, e749, hx749_0⟩ := Kd.at_int HR748.out x8_1 p749 q749
         cases e749
         replace p749 := eq_true p749
         replace q749 := eq_true q749
         have q749m := q749; (try rw [List.length_drop] at q749m); (try rw [List.drop_one] at q749m)
         have p750 : 0 ≤ (1 : Int) := (by omega)
         have q750 : 1 < (l0.length : Int) := ofd
         obtain ⟨ad750, e750, hx750_0⟩ := Kd.at_int HR0.out 1 p750 q750
         cases e750
         (try simp only [show (1 : Int).toNat = 1 from rfl, Nat.reduceMul, Nat.reduceEqDiff, Go.Addr.add, ↓reduceIte] at hx750_0)
         have qi750 : (1 < l0.length) = True := eq_true (by omega)
         (try rw [show ((1 : Int)).toNat = 1 from rfl] at hx750_0)
         replace p750 := eq_true p750
         replace q750 := eq_true q750
         have q750m := q750; (try rw [List.length_drop] at q750m); (try rw [List.drop_one] at q750m)
         go_wp2
         go_roundg k1
         case measure => have := HK1.out; omega
         case rel => exact ⟨(wrap64 (x8_1 + 1)), eqd, H', ⟨by have := HK1.out; omega⟩, by repeat (first | exact Drawn0.refl _ | apply Drawn0.step)⟩
        ·rw [if_neg c8] at H
         have c8b0 : ((rd (l0.drop 1) x8_1) == (rd l0 1)) = false := beq_eq_false_iff_ne.mpr c8
         have c8b0m := c8b0; (try rw [List.length_drop] at c8b0m); (try rw [List.drop_one] at c8b0m)
         have c8b1 : ((rd (l0.drop 1) x8_1) != (rd l0 1)) = true := bne_iff_ne.mpr c8
         have c8b1m := c8b1; (try rw [List.length_drop] at c8b1m); (try rw [List.drop_one] at c8b1m)
         obtain rfl := Option.some.inj H
         have p749 : 0 ≤ (x8_1 : Int) := ofd
         have q749 : x8_1 < ((l0.drop 1).length : Int) := ofd
         obtain ⟨ad749, e749, hx749_0⟩ := Kd.at_int HR748.out x8_1 p749 q749
         cases e749
         replace p749 := eq_true p749
         replace q749 := eq_true q749
         have q749m := q749; (try rw [List.length_drop] at q749m); (try rw [List.drop_one] at q749m)
         have p750 : 0 ≤ (1 : Int) := (by omega)
         have q750 : 1 < (l0.length : Int) := ofd
         obtain ⟨ad750, e750, hx750_0⟩ := Kd.at_int HR0.out 1 p750 q750
         cases e750
         (try simp only [show (1 : Int).toNat = 1 from rfl, Nat.reduceMul, Nat.reduceEqDiff, Go.Addr.add, ↓reduceIte] at hx750_0)
         have qi750 : (1 < l0.length) = True := eq_true (by omega)
         (try rw [show ((1 : Int)).toNat = 1 from rfl] at hx750_0)
         replace p750 := eq_true p750
         replace q750 := eq_true q750
         have q750m := q750; (try rw [List.length_drop] at q750m); (try rw [List.drop_one] at q750m)
         go_wp2
         go_ret
         exact ⟨by first | rfl | (simp; done) | (simp [*]; done), by repeat (first | exact Drawn0.refl _ | apply Drawn0.step)⟩
       ·rw [if_neg c7] at H
        exact absurd H (by simp)
      ·rw [if_neg c6] at H
       exact absurd H (by simp)
     ·rw [if_neg c5] at H
      exact absurd H (by simp)
    ·rw [if_neg c4] at H
     have c4b0 : decide (x8_1 < ((l0.drop 1).length : Int)) = false := decide_eq_false c4
     have c4b0m := c4b0; (try rw [List.length_drop] at c4b0m); (try rw [List.drop_one] at c4b0m)
     clear c4
     by_cases c9 : 1 < (l0.length : Int)
     ·rw [if_pos c9] at H
      have c9b0 : decide (1 < (l0.length : Int)) = true := decide_eq_true c9
      have c9b1 : decide (1 < l0.length) = true := decide_eq_true (by omega)
      clear c9
      obtain rfl := Option.some.inj H
      have p751 : 0 ≤ (1 : Int) := (by omega)
      have q751 : 1 < (l0.length : Int) := ofd
      obtain ⟨ad751, e751, hx751_0⟩ := Kd.at_int HR0.out 1 p751 q751
      cases e751
      (try simp only [show (1 : Int).toNat = 1 from rfl, Nat.reduceMul, Nat.reduceEqDiff, Go.Addr.add, ↓reduceIte] at hx751_0)
      have qi751 : (1 < l0.length) = True := eq_true (by omega)
      (try rw [show ((1 : Int)).toNat = 1 from rfl] at hx751_0)
      replace p751 := eq_true p751
      replace q751 := eq_true q751
      have q751m := q751; (try rw [List.length_drop] at q751m); (try rw [List.drop_one] at q751m)
      go_wp2
      go_ret
      exact ⟨by first | rfl | (simp; done) | (simp [*]; done), by repeat (first | exact Drawn0.refl _ | apply Drawn0.step)⟩
     ·rw [if_neg c9] at H
      exact absurd H (by simp)
 ·rw [if_neg c2] at H
  exact absurd H (by simp)

noncomputable def impl_even.L0 (x0 : List Int) (x6 : List Int) (x7 : Int) (x8 : Int) : Option (Int) := lim fun k => impl_even.l0 k x0 x6 x7 x8
theorem impl_even.L0_lim (x0 : List Int) (x6 : List Int) (x7 : Int) (x8 : Int) : Lim (fun k => impl_even.l0 k x0 x6 x7 x8) (impl_even.L0 x0 x6 x7 x8) := Lim.of fun k => (impl_even.mono_l k) x0 x6 x7 x8
noncomputable def impl_even.F (l0 : List Int) : Option (Int) := lim fun k => impl_even.f k l0
theorem impl_even.F_lim (l0 : List Int) : Lim (fun k => impl_even.f k l0) (impl_even.F l0) := Lim.of fun k => impl_even.mono l0 k
theorem impl_even.L0_eq (x0 : List Int) (x6 : List Int) (x7 : Int) (x8 : Int) : impl_even.L0 x0 x6 x7 x8 = (if x8 < x7 then (if 0 ≤ x8 then (if x8 < (x6.length : Int) then (if 1 < (x0.length : Int) then (if (rd x6 x8) = (rd x0 1) then (impl_even.L0 x0 x6 x7 (wrap64 (x8 + 1))) else (some 0)) else (none)) else (none)) else (none)) else (if 1 < (x0.length : Int) then (some (rd x0 1)) else (none))) :=
 Lim.step (f := fun k => impl_even.l0 (k + 1) x0 x6 x7 x8) (impl_even.L0_lim x0 x6 x7 x8) (fun _ => rfl) (by
  simp only [impl_even.l0]
  repeat' (first | (with_reducible first | exact Lim.const _ | exact impl_even.L0_lim _ _ _ _ | refine Lim.ite ?_ ?_ | refine Lim.bind ?_ (fun _ => ?_))))
theorem impl_even.F_eq (l0 : List Int) : impl_even.F l0 = (if 1 ≤ (l0.length : Int) then (impl_even.L0 l0 (l0.drop 1) ((l0.drop 1).length : Int) 0) else (none)) :=
 Lim.unique (impl_even.F_lim l0) (by
  unfold impl_even.f
  repeat' (first | (with_reducible first | exact Lim.const _ | exact impl_even.L0_lim _ _ _ _ | refine Lim.ite ?_ ?_ | refine Lim.bind ?_ (fun _ => ?_))))

end Go.Proofs.Ytofjndbpndpjjaa.Fn
namespace Go.Proofs.Ytofjndbpndpjjaa.Fn
open Go.RowKit Go.Proofs.YtofjndbpndpjjaaW.PrintWords Go.Proofs.YtofjndbpndpjjaaW.PrintLast Go.Proofs.YtofjndbpndpjjaaW.PrintMore
attribute [local go_sem] max2_int min2_int max_two min_two max_three min_three max_four min_four   -- for this text's walks alone
set_option linter.unusedVariables false
set_option linter.unusedSimpArgs false

/-! ### impl_IsDifferenceSet: function 36 -/
def impl_IsDifferenceSet.f (k : Nat) (a0 : Int) (l1 : List Int) : Option (Bool × Bool) := (impl_IsCircleSet.f k a0 l1).bind fun t795 => (if t795 = true then ((impl_counts.f k a0 l1).bind fun t796 => ((impl_even.f k t796).bind fun t799 => (some (decide (t799 > 0), true)))) else (some (false, false)))
theorem impl_IsDifferenceSet.mono : ∀ a0 a1 k, LeO (impl_IsDifferenceSet.f k a0 a1) (impl_IsDifferenceSet.f (k + 1) a0 a1) := by
 intro a0 a1 k
 unfold impl_IsDifferenceSet.f
 repeat' (first | (with_reducible first | exact impl_IsCircleSet.mono _ _ _ | exact impl_counts.mono _ _ _ | exact impl_even.mono _ _ | exact LeO.refl _ | exact LeO.none _ | refine LeO.ite ?_ ?_ | refine LeO.bind ?_ (fun _ => ?_)) | exact impl_IsCircleSet.mono _ _ _ | exact impl_counts.mono _ _ _ | exact impl_even.mono _ _ | exact LeO.none _ | refine LeO.ite ?_ ?_ | refine LeO.bind ?_ (fun _ => ?_))
set_option maxHeartbeats 8000000 in
set_option maxRecDepth 100000 in
theorem impl_IsDifferenceSet.calls (k : Nat) (a0 : Int) (A1 : Option Addr) (c1 : Nat) (l1 : List Int) (r1 : Bool) (r2 : Bool) (w : World) (hr1 : Kd.C (Kd.int .i64) w A1 l1.length l1) (hc1 : l1.length ≤ c1) (h : impl_IsDifferenceSet.f k a0 l1 = some (r1, r2)) :
  Calls Try.prog 36 #[.int .i64 a0, .slice A1 l1.length c1] w fun e w' => e = .returned (.tuple #[.bool r1, .bool r2]) ∧ Below w.heap.size w w' := by
 have HR1 := Aside0.mk hr1
 have HC1 := Aside0.mk hc1
 clear hr1 hc1
 have HB := Aside0.mk (Below.refl w.heap.size w)
 have H := h
 unfold impl_IsDifferenceSet.f at H
 clear h
 replace H := Option.bind_eq_some_iff.mp H
 obtain ⟨t795, A30, H⟩ := H
 replace H : (if t795 = true then ((impl_counts.f k a0 l1).bind fun t796 => ((impl_even.f k t796).bind fun t799 => (some (decide (t799 > 0), true)))) else (some (false, false))) = some (r1, r2) := H
 have A3 := Aside0.mk A30
 clear A30
 by_cases c4 : t795 = true
 ·subst c4
  have H1 : ((impl_counts.f k a0 l1).bind fun t796 => ((impl_even.f k t796).bind fun t799 => (some (decide (t799 > 0), true)))) = some (r1, r2) := by rw [if_pos rfl] at H; exact H
  clear H
  have H := H1
  clear H1
  replace H := Option.bind_eq_some_iff.mp H
  obtain ⟨t796, A50, H⟩ := H
  replace H : ((impl_even.f k t796).bind fun t799 => (some (decide (t799 > 0), true))) = some (r1, r2) := H
  have A5 := Aside0.mk A50
  clear A50
  replace H := Option.bind_eq_some_iff.mp H
  obtain ⟨t799, A60, H⟩ := H
  replace H : (some (decide (t799 > 0), true)) = some (r1, r2) := H
  have A6 := Aside0.mk A60
  clear A60
  simp only [Option.some.injEq, Prod.mk.injEq] at H
  obtain ⟨rfl, rfl⟩ := H
  go_enter Try.func36, Try.ntmps36
  go_wp2_with (first | ((with_reducible refine gate_callee (f := 45) rfl ?_); refine goesA (some 8) Try.func45 #[.int .i64 a0, .slice A1 l1.length c1] ?_; (with_reducible refine (impl_IsCircleSet.calls k a0 _ _ l1 true _ ?side1 ?side2 A3.out).mono ?_); (case side1 => repeat (first | exact HR1.out | (with_reducible refine Kd.C_alloc ?_ _) | (with_reducible refine Kd.C_drewN ?_ _) | (with_reducible refine Kd.C_drew ?_))); (case side2 => exact HC1.out); rintro e w' ⟨rfl, ⟨nd, rfl⟩⟩; refine ⟨_, rfl, ?_⟩) | ((with_reducible refine gate_callee (f := 81) rfl ?_); refine goesA (some 12) Try.func81 #[.int .i64 a0, .slice A1 l1.length c1] ?_; (with_reducible refine (impl_counts.calls k a0 _ _ l1 t796 _ ?side1 ?side2 A5.out).mono ?_); (case side1 => repeat (first | exact HR1.out | (with_reducible refine Kd.C_alloc ?_ _) | (with_reducible refine Kd.C_drewN ?_ _) | (with_reducible refine Kd.C_drew ?_))); (case side2 => exact HC1.out); rintro e w7 ⟨v797, rfl, ho0, hb⟩; refine ⟨_, rfl, ?_⟩; have HO798 := lowR ho0 HB; replace HB := upB HB hb; (try clear hb); (try clear hb2); (try clear hk); (try clear hi); (try clear ho0); obtain ⟨Ao8, co8, eo8⟩ := Kd.R_slice HO798.out; subst eo8) | ((with_reducible refine gate_callee (f := 80) rfl ?_); refine goesA (some 13) Try.func80 #[.slice Ao8 t796.length co8] ?_; (with_reducible refine (impl_even.calls k _ _ t796 t799 _ ?side1 ?side2 A6.out).mono ?_); (case side1 => exact atRC HO798); (case side2 => exact (Kd.R_reads' HO798.out).2.1); rintro e w' ⟨rfl, ⟨nd, rfl⟩⟩; refine ⟨_, rfl, ?_⟩))
  go_ret2
  exact ⟨eqr, atB HB⟩
 ·replace c4 := Bool.eq_false_iff.mpr c4
  subst c4
  have H1 : (some (false, false)) = some (r1, r2) := by rw [if_neg (show ¬ (false = true) by decide)] at H; exact H
  clear H
  have H := H1
  clear H1
  simp only [Option.some.injEq, Prod.mk.injEq] at H
  obtain ⟨rfl, rfl⟩ := H
  go_enter Try.func36, Try.ntmps36
  go_wp2_with (first | ((with_reducible refine gate_callee (f := 45) rfl ?_); refine goesA (some 8) Try.func45 #[.int .i64 a0, .slice A1 l1.length c1] ?_; (with_reducible refine (impl_IsCircleSet.calls k a0 _ _ l1 false _ ?side1 ?side2 A3.out).mono ?_); (case side1 => repeat (first | exact HR1.out | (with_reducible refine Kd.C_alloc ?_ _) | (with_reducible refine Kd.C_drewN ?_ _) | (with_reducible refine Kd.C_drew ?_))); (case side2 => exact HC1.out); rintro e w' ⟨rfl, ⟨nd, rfl⟩⟩; refine ⟨_, rfl, ?_⟩))
  go_ret2
  exact ⟨eqr, atB HB⟩

noncomputable def impl_IsDifferenceSet.F (a0 : Int) (l1 : List Int) : Option (Bool × Bool) := lim fun k => impl_IsDifferenceSet.f k a0 l1
theorem impl_IsDifferenceSet.F_lim (a0 : Int) (l1 : List Int) : Lim (fun k => impl_IsDifferenceSet.f k a0 l1) (impl_IsDifferenceSet.F a0 l1) := Lim.of fun k => impl_IsDifferenceSet.mono a0 l1 k
theorem impl_IsDifferenceSet.F_eq (a0 : Int) (l1 : List Int) : impl_IsDifferenceSet.F a0 l1 = ((impl_IsCircleSet.F a0 l1).bind fun t795 => (if t795 = true then ((impl_counts.F a0 l1).bind fun t796 => ((impl_even.F t796).bind fun t799 => (some (decide (t799 > 0), true)))) else (some (false, false)))) :=
 Lim.unique (impl_IsDifferenceSet.F_lim a0 l1) (by
  unfold impl_IsDifferenceSet.f
  repeat' (first | (with_reducible first | exact Lim.const _ | exact impl_IsCircleSet.F_lim _ _ | exact impl_counts.F_lim _ _ | exact impl_even.F_lim _ | refine Lim.ite ?_ ?_ | refine Lim.bind ?_ (fun _ => ?_))))

end Go.Proofs.Ytofjndbpndpjjaa.Fn
namespace Go.Proofs.Ytofjndbpndpjjaa.Fn
open Go.RowKit Go.Proofs.YtofjndbpndpjjaaW.PrintWords Go.Proofs.YtofjndbpndpjjaaW.PrintLast Go.Proofs.YtofjndbpndpjjaaW.PrintMore
attribute [local go_sem] max2_int min2_int max_two min_two max_three min_three max_four min_four   -- for this text's walks alone
set_option linter.unusedVariables false
set_option linter.unusedSimpArgs false

/-! ### impl_LambdaOf: function 34 -/
def impl_LambdaOf.f (k : Nat) (a0 : Int) (l1 : List Int) : Option (Int × Bool) := (impl_IsCircleSet.f k a0 l1).bind fun t759 => (if t759 = true then ((impl_counts.f k a0 l1).bind fun t760 => ((impl_even.f k t760).bind fun t763 => (some (t763, decide (t763 > 0))))) else (some (0, false)))
theorem impl_LambdaOf.mono : ∀ a0 a1 k, LeO (impl_LambdaOf.f k a0 a1) (impl_LambdaOf.f (k + 1) a0 a1) := by
 intro a0 a1 k
 unfold impl_LambdaOf.f
 repeat' (first | (with_reducible first | exact impl_IsCircleSet.mono _ _ _ | exact impl_counts.mono _ _ _ | exact impl_even.mono _ _ | exact LeO.refl _ | exact LeO.none _ | refine LeO.ite ?_ ?_ | refine LeO.bind ?_ (fun _ => ?_)) | exact impl_IsCircleSet.mono _ _ _ | exact impl_counts.mono _ _ _ | exact impl_even.mono _ _ | exact LeO.none _ | refine LeO.ite ?_ ?_ | refine LeO.bind ?_ (fun _ => ?_))
set_option maxHeartbeats 8000000 in
set_option maxRecDepth 100000 in
theorem impl_LambdaOf.calls (k : Nat) (a0 : Int) (A1 : Option Addr) (c1 : Nat) (l1 : List Int) (r1 : Int) (r2 : Bool) (w : World) (hr1 : Kd.C (Kd.int .i64) w A1 l1.length l1) (hc1 : l1.length ≤ c1) (h : impl_LambdaOf.f k a0 l1 = some (r1, r2)) :
  Calls Try.prog 34 #[.int .i64 a0, .slice A1 l1.length c1] w fun e w' => e = .returned (.tuple #[.int .i64 r1, .bool r2]) ∧ Below w.heap.size w w' := by
 have HR1 := Aside0.mk hr1
 have HC1 := Aside0.mk hc1
 clear hr1 hc1
 have HB := Aside0.mk (Below.refl w.heap.size w)
 have H := h
 unfold impl_LambdaOf.f at H
 clear h
 replace H := Option.bind_eq_some_iff.mp H
 obtain ⟨t759, A30, H⟩ := H
 replace H : (if t759 = true then ((impl_counts.f k a0 l1).bind fun t760 => ((impl_even.f k t760).bind fun t763 => (some (t763, decide (t763 > 0))))) else (some (0, false))) = some (r1, r2) := H
 have A3 := Aside0.mk A30
 clear A30
 by_cases c4 : t759 = true
 ·subst c4
  have H1 : ((impl_counts.f k a0 l1).bind fun t760 => ((impl_even.f k t760).bind fun t763 => (some (t763, decide (t763 > 0))))) = some (r1, r2) := by rw [if_pos rfl] at H; exact H
  clear H
  have H := H1
  clear H1
  replace H := Option.bind_eq_some_iff.mp H
  obtain ⟨t760, A50, H⟩ := H
  replace H : ((impl_even.f k t760).bind fun t763 => (some (t763, decide (t763 > 0)))) = some (r1, r2) := H
  have A5 := Aside0.mk A50
  clear A50
  replace H := Option.bind_eq_some_iff.mp H
  obtain ⟨t763, A60, H⟩ := H
  replace H : (some (t763, decide (t763 > 0))) = some (r1, r2) := H
  have A6 := Aside0.mk A60
  clear A60
  simp only [Option.some.injEq, Prod.mk.injEq] at H
  obtain ⟨rfl, rfl⟩ := H
  go_enter Try.func34, Try.ntmps34
  go_wp2_with (first | ((with_reducible refine gate_callee (f := 45) rfl ?_); refine goesA (some 9) Try.func45 #[.int .i64 a0, .slice A1 l1.length c1] ?_; (with_reducible refine (impl_IsCircleSet.calls k a0 _ _ l1 true _ ?side1 ?side2 A3.out).mono ?_); (case side1 => repeat (first | exact HR1.out | (with_reducible refine Kd.C_alloc ?_ _) | (with_reducible refine Kd.C_drewN ?_ _) | (with_reducible refine Kd.C_drew ?_))); (case side2 => exact HC1.out); rintro e w' ⟨rfl, ⟨nd, rfl⟩⟩; refine ⟨_, rfl, ?_⟩) | ((with_reducible refine gate_callee (f := 81) rfl ?_); refine goesA (some 13) Try.func81 #[.int .i64 a0, .slice A1 l1.length c1] ?_; (with_reducible refine (impl_counts.calls k a0 _ _ l1 t760 _ ?side1 ?side2 A5.out).mono ?_); (case side1 => repeat (first | exact HR1.out | (with_reducible refine Kd.C_alloc ?_ _) | (with_reducible refine Kd.C_drewN ?_ _) | (with_reducible refine Kd.C_drew ?_))); (case side2 => exact HC1.out); rintro e w7 ⟨v761, rfl, ho0, hb⟩; refine ⟨_, rfl, ?_⟩; have HO762 := lowR ho0 HB; replace HB := upB HB hb; (try clear hb); (try clear hb2); (try clear hk); (try clear hi); (try clear ho0); obtain ⟨Ao8, co8, eo8⟩ := Kd.R_slice HO762.out; subst eo8) | ((with_reducible refine gate_callee (f := 80) rfl ?_); refine goesA (some 14) Try.func80 #[.slice Ao8 t760.length co8] ?_; (with_reducible refine (impl_even.calls k _ _ t760 t763 _ ?side1 ?side2 A6.out).mono ?_); (case side1 => exact atRC HO762); (case side2 => exact (Kd.R_reads' HO762.out).2.1); rintro e w' ⟨rfl, ⟨nd, rfl⟩⟩; refine ⟨_, rfl, ?_⟩))
  go_ret2
  exact ⟨eqr, atB HB⟩
 ·replace c4 := Bool.eq_false_iff.mpr c4
  subst c4
  have H1 : (some (0, false)) = some (r1, r2) := by rw [if_neg (show ¬ (false = true) by decide)] at H; exact H
  clear H
  have H := H1
  clear H1
  simp only [Option.some.injEq, Prod.mk.injEq] at H
  obtain ⟨rfl, rfl⟩ := H
  go_enter Try.func34, Try.ntmps34
  go_wp2_with (first | ((with_reducible refine gate_callee (f := 45) rfl ?_); refine goesA (some 9) Try.func45 #[.int .i64 a0, .slice A1 l1.length c1] ?_; (with_reducible refine (impl_IsCircleSet.calls k a0 _ _ l1 false _ ?side1 ?side2 A3.out).mono ?_); (case side1 => repeat (first | exact HR1.out | (with_reducible refine Kd.C_alloc ?_ _) | (with_reducible refine Kd.C_drewN ?_ _) | (with_reducible refine Kd.C_drew ?_))); (case side2 => exact HC1.out); rintro e w' ⟨rfl, ⟨nd, rfl⟩⟩; refine ⟨_, rfl, ?_⟩))
  go_ret2
  exact ⟨eqr, atB HB⟩

noncomputable def impl_LambdaOf.F (a0 : Int) (l1 : List Int) : Option (Int × Bool) := lim fun k => impl_LambdaOf.f k a0 l1
theorem impl_LambdaOf.F_lim (a0 : Int) (l1 : List Int) : Lim (fun k => impl_LambdaOf.f k a0 l1) (impl_LambdaOf.F a0 l1) := Lim.of fun k => impl_LambdaOf.mono a0 l1 k
theorem impl_LambdaOf.F_eq (a0 : Int) (l1 : List Int) : impl_LambdaOf.F a0 l1 = ((impl_IsCircleSet.F a0 l1).bind fun t759 => (if t759 = true then ((impl_counts.F a0 l1).bind fun t760 => ((impl_even.F t760).bind fun t763 => (some (t763, decide (t763 > 0))))) else (some (0, false)))) :=
 Lim.unique (impl_LambdaOf.F_lim a0 l1) (by
  unfold impl_LambdaOf.f
  repeat' (first | (with_reducible first | exact Lim.const _ | exact impl_IsCircleSet.F_lim _ _ | exact impl_counts.F_lim _ _ | exact impl_even.F_lim _ | refine Lim.ite ?_ ?_ | refine Lim.bind ?_ (fun _ => ?_))))

end Go.Proofs.Ytofjndbpndpjjaa.Fn
namespace Go.Proofs.Ytofjndbpndpjjaa.Fn
open Go.RowKit Go.Proofs.YtofjndbpndpjjaaW.PrintWords Go.Proofs.YtofjndbpndpjjaaW.PrintLast Go.Proofs.YtofjndbpndpjjaaW.PrintMore
attribute [local go_sem] max2_int min2_int max_two min_two max_three min_three max_four min_four   -- for this text's walks alone
set_option linter.unusedVariables false
set_option linter.unusedSimpArgs false

/-! ### slices_Sort_int_int: function 71 (given) -/
open Go.Lib Go.Sort
/-- A list in order. -/
def sortInt (l : List Int) : List Int := l.mergeSort fun x y => decide (x ≤ y)
theorem sortInt_length (l : List Int) : (sortInt l).length = l.length := List.length_mergeSort l
def slices_Sort_int_int.f (l0 : List Int) : Option (List Int) := if l0.length < 4611686018427387904 then some (sortInt l0) else none
theorem slices_Sort_int_int.below {w : World} {B g q : Nat} {os : Array Obj} (d : Array Int) (h : B ≤ g) (hs : B ≤ w.heap.size) : Below B w (grow (putRow (Value.int .i64) (Sort.ahead w q) g 0 d) os) := by
 refine ⟨rfl, rfl, rfl, by simp [grow, putRow, mapBlock, Sort.ahead], fun k hk => ?_⟩
 have h1 : g ≠ k := by omega
 have h2 : k < w.heap.size := by omega
 simp only [grow, putRow, mapBlock, Sort.ahead]
 rw [Array.getElem?_append_left (by simpa using h2), Array.getElem?_modify, if_neg h1]
theorem slices_Sort_int_int.heap {w : World} {g q : Nat} {os : Array Obj} {cur : Array Value} {e : TypeId} {fr : Nat × Nat} (d : Array Int) (hb : w.heap[g]? = some (.cells cur e fr)) : (grow (putRow (Value.int .i64) (Sort.ahead w q) g 0 d) os).heap[g]? = some (.cells (putCells (Value.int .i64) 0 d cur) e fr) := by
 have h2 : g < w.heap.size := by
  rcases Nat.lt_or_ge g w.heap.size with h | h
  ·exact h
  ·rw [Array.getElem?_eq_none h] at hb
   cases hb
 simp only [grow, putRow, mapBlock, Sort.ahead, Array.getElem?_append, Array.size_modify, h2, if_true]
 simp [Array.getElem?_modify, hb, onCells]
theorem slices_Sort_int_int.kept {w : World} {g q : Nat} {os : Array Obj} (d : Array Int) (P : Nat → Prop) (h : P g) : Kept w (grow (putRow (Value.int .i64) (Sort.ahead w q) g 0 d) os) P := by
 refine ⟨by simp [grow, putRow, mapBlock, Sort.ahead], fun k hk hn => ?_⟩
 have h1 : g ≠ k := fun e => hn (e ▸ h)
 simp only [grow, putRow, mapBlock, Sort.ahead]
 rw [Array.getElem?_append_left (by simpa using hk), Array.getElem?_modify, if_neg h1]
theorem slices_Sort_int_int.calls (P0_ : Nat → Prop) (u9000_ : Value) (l0 : List Int) (r : List Int) (w0 w : World) (hB : Below w0.heap.size w0 w) (ho0 : Kd.R (Kd.int .i64) 3 w w0.heap.size P0_ u9000_ l0) (h : slices_Sort_int_int.f l0 = some r) :
  Calls Try.prog 71 #[u9000_] w fun e w' => e = .returned (.tuple #[]) ∧ Kd.R (Kd.int .i64) 3 w' w0.heap.size (fun k_ => (P0_ k_ ∨ w.heap.size ≤ k_)) u9000_ r ∧ Below w0.heap.size w0 w' ∧ Kept w w' (fun k_ => P0_ k_) := by
 unfold slices_Sort_int_int.f at h
 split at h
 case isFalse => cases h
 rename_i hlen0
 obtain rfl := Option.some.inj h
 have ho1 := ho0
 obtain ⟨A, c, rfl⟩ := Kd.R_slice ho0
 obtain ⟨hok, inner, ho, hr⟩ := ho0
 have hin : inner = l0.map (Value.int .i64) := Kd.reps_encs hr
 subst hin
 by_cases hl : l0 = []
 ·subst hl
  refine (Try.slices_Sort_int_none A c w).mono ?_
  rintro e w' ⟨rfl, rfl⟩
  have e0 : sortInt [] = [] := by simp [sortInt]
  rw [e0]
  exact ⟨rfl, Kd.R_mono ho1 (fun k hk => .inl hk), hB, Kept.refl _ _⟩
 rcases ho.2 with ⟨h0, h1⟩ | ⟨g, cap, cur, hv, hg, hb, hn, hcap, hsz, htk⟩
 ·simp at h0
  exact absurd h0.2.1 hl
 ·cases hv
  have ht : cur.toList.take l0.length = l0.map (Value.int .i64) := by simpa [Kd.int, Kd.scalar] using htk
  have hsz' : cur.size = c := by simpa [Kd.int, Kd.scalar] using hsz
  have hlt : g < w.heap.size := by
   rcases Nat.lt_or_ge g w.heap.size with h | h
   ·exact h
   ·rw [Array.getElem?_eq_none h] at hb
    cases hb
  refine (Try.slices_Sort_int g 0 c l0 w (holds_of_blockI hb ht) hlt hlen0).mono ?_
  rintro e w' ⟨rfl, q, os, rfl⟩
  have hPg : P0_ g := hok g rfl
  have hlen := sortInt_length l0
  refine ⟨rfl, ⟨fun k hk => .inl (hok k hk), _, ⟨?_, .inr ⟨g, c, _, by rw [hlen], hg, slices_Sort_int_int.heap _ hb, by omega, hcap, ?_, ?_⟩⟩, Kd.reps_scalar _⟩, hB.trans (slices_Sort_int_int.below _ hg hB.size), slices_Sort_int_int.kept _ _ hPg⟩
  ·show (List.map _ _).length = _ * 1
   rw [List.length_map, Nat.mul_one]
  ·show _ = c * 1
   rw [Nat.mul_one]
   simpa [putCells] using hsz'
  ·show List.take (_ * 1) _ = List.map _ _
   have e1 := take_putCellsI cur (sortInt l0) (by omega)
   rw [Nat.mul_one]
   exact e1


end Go.Proofs.Ytofjndbpndpjjaa.Fn
namespace Go.Proofs.Ytofjndbpndpjjaa.Fn
open Go.RowKit Go.Proofs.YtofjndbpndpjjaaW.PrintWords Go.Proofs.YtofjndbpndpjjaaW.PrintLast Go.Proofs.YtofjndbpndpjjaaW.PrintMore
attribute [local go_sem] max2_int min2_int max_two min_two max_three min_three max_four min_four   -- for this text's walks alone
set_option linter.unusedVariables false
set_option linter.unusedSimpArgs false

/-! ### impl_image: function 86 -/
def impl_image.l0 : Nat → Int → Int → Int → List Int → List Int → Int → Int → Option (List Int)
 | 0, _, _, _, _, _, _, _ => none
 | k + 1, x0, x2, x3, x9, x12, x13, x14 => if x14 < x13 then (if 0 ≤ x14 then (if x14 < (x12.length : Int) then (if x0 = 0 then (none) else (if x9.length < 17592186044416 then (impl_image.l0 k x0 x2 x3 (x9 ++ [Int.tmod (wrap64 ((wrap64 ((rd x12 x14) * x2)) + x3)) x0]) x12 x13 (wrap64 (x14 + 1))) else (none))) else (none)) else (none)) else ((slices_Sort_int_int.f x9).bind fun t820 => (some t820))
def impl_image.f (k : Nat) (a0 : Int) (l1 : List Int) (a2 : Int) (a3 : Int) : Option (List Int) := impl_image.l0 k a0 a2 a3 ([] : List Int) l1 (l1.length : Int) 0
theorem impl_image.mono_l : ∀ k, (∀ y0 y1 y2 y3 y4 y5 y6, LeO (impl_image.l0 k y0 y1 y2 y3 y4 y5 y6) (impl_image.l0 (k + 1) y0 y1 y2 y3 y4 y5 y6))
 | 0 => fun _ _ _ _ _ _ _ r h => by simp [impl_image.l0] at h
 | k + 1 => by
  have ih0 := impl_image.mono_l k
  ·intro y0 y1 y2 y3 y4 y5 y6
   unfold impl_image.l0
   repeat' (first | (with_reducible first | exact ih0 _ _ _ _ _ _ _ | exact LeO.refl _ | exact LeO.none _ | refine LeO.ite ?_ ?_ | refine LeO.bind ?_ (fun _ => ?_)) | exact ih0 _ _ _ _ _ _ _ | exact LeO.none _ | refine LeO.ite ?_ ?_ | refine LeO.bind ?_ (fun _ => ?_))
theorem impl_image.mono : ∀ a0 a1 a2 a3 k, LeO (impl_image.f k a0 a1 a2 a3) (impl_image.f (k + 1) a0 a1 a2 a3) := by
 intro a0 a1 a2 a3 k
 have ih0 := impl_image.mono_l k
 unfold impl_image.f
 repeat' (first | (with_reducible first | exact ih0 _ _ _ _ _ _ _ | exact LeO.refl _ | exact LeO.none _ | refine LeO.ite ?_ ?_ | refine LeO.bind ?_ (fun _ => ?_)) | exact ih0 _ _ _ _ _ _ _ | exact LeO.none _ | refine LeO.ite ?_ ?_ | refine LeO.bind ?_ (fun _ => ?_))
set_option maxHeartbeats 8000000 in
set_option maxRecDepth 100000 in
theorem impl_image.calls (k : Nat) (a0 : Int) (A1 : Option Addr) (c1 : Nat) (l1 : List Int) (a2 : Int) (a3 : Int) (r : List Int) (w : World) (hr1 : Kd.C (Kd.int .i64) w A1 l1.length l1) (hc1 : l1.length ≤ c1) (h : impl_image.f k a0 l1 a2 a3 = some r) :
  Calls Try.prog 86 #[.int .i64 a0, .slice A1 l1.length c1, .int .i64 a2, .int .i64 a3] w fun e w' => ∃ v0_ : Value, e = .returned (v0_) ∧ Kd.R (Kd.int .i64) 3 w' w.heap.size (fun _ => True) v0_ r ∧ Below w.heap.size w w' := by
 have HR1 := Aside0.mk hr1
 have HC1 := Aside0.mk hc1
 clear hr1 hc1
 have HB := Aside0.mk (Below.refl w.heap.size w)
 have H := h
 unfold impl_image.f at H
 clear h
 have H' := Aside0.mk H
 clear H
 go_enter Try.func86, Try.ntmps86
 go_wp2
 go_loopg [9, 14] k (fun kq v9 v14 w' => ∃ (x9_1 : List Int) (x14_1 : Int), v14 = .int .i64 x14_1 ∧ Aside0 (impl_image.l0 kq a0 a2 a3 x9_1 l1 (l1.length : Int) x14_1 = some r) ∧ Aside0 (kq ≤ k) ∧ Aside0 (Kd.R (Kd.int .i64) 3 w' w.heap.size (fun _ => True) v9 x9_1) ∧ Aside0 (Below w.heap.size w w'))
 case atStart => exact ⟨(([] : List Int)), (0), eqd, H', ⟨Nat.le_refl _⟩, ⟨by first | exact Kd.R_nil _ _ _ _ _ | exact Kd.N_nil _ _ _ _ _ | exact Kd.V_nil _ _ _ _ _ | exact Kd.Q_nil _ _ _ _ _ | exact Kd.S_nil _ _ _ _ _⟩, ⟨atB HB⟩⟩
 case round =>
  clear H'
  try clear c1
  try clear p2
  obtain ⟨x9_1, x14_1, rfl, HA, HK1, HO_9, HB⟩ := hrel
  cases gk with
  | zero => exact absurd HA.out (by simp [impl_image.l0])
  | succ k1 =>
   have H := HA.out
   clear HA
   simp only [impl_image.l0] at H
   by_cases c5 : x14_1 < (l1.length : Int)
   ·rw [if_pos c5] at H
    have c5b0 : decide (x14_1 < (l1.length : Int)) = true := decide_eq_true c5
    clear c5
    by_cases c6 : 0 ≤ x14_1
    ·rw [if_pos c6] at H
     have c6b0 : decide (0 ≤ x14_1) = true := decide_eq_true c6
     clear c6
     by_cases c7 : x14_1 < (l1.length : Int)
     ·rw [if_pos c7] at H
      have c7b0 : decide (x14_1 < (l1.length : Int)) = true := decide_eq_true c7
      clear c7
      by_cases c8 : a0 = 0
      ·rw [if_pos c8] at H
       exact absurd H (by simp)
      ·rw [if_neg c8] at H
       have c8b0 : (a0 == 0) = false := beq_eq_false_iff_ne.mpr c8
       have c8b1 : (a0 != 0) = true := bne_iff_ne.mpr c8
       by_cases c9 : x9_1.length < 17592186044416
       ·rw [if_pos c9] at H
        have LMc9 := Aside0.mk c9
        clear c9
        obtain ⟨y817, hy817⟩ : ∃ y_ : List Int, y_ = (x9_1 ++ [Int.tmod (wrap64 ((wrap64 ((rd l1 x14_1) * a2)) + a3)) a0]) := ⟨_, rfl⟩
        replace H : (impl_image.l0 k1 a0 a2 a3 y817 l1 (l1.length : Int) (wrap64 (x14_1 + 1))) = some r := by first | (rw [hy817]; with_reducible exact H) | (have H2_ := (Option.bind_some _ _).symm.trans H; rw [hy817]; with_reducible exact H2_) | (have H2_ := (Option.bind_some _ _).symm.trans H; with_reducible exact H2_) | with_reducible exact H | (rw [hy817]; exact H) | exact H
        have Ny817 := Aside0.mk hy817
        clear hy817
        have H' := Aside0.mk H
        clear H
        have p816 : 0 ≤ (x14_1 : Int) := ofd
        have q816 : x14_1 < (l1.length : Int) := ofd
        obtain ⟨ad816, e816, hx816_0⟩ := Kd.at_int HR1.out x14_1 p816 q816
        cases e816
        (try replace hx816_0 := (HB.out.cell (World.block_lt_of_cell? w _ hx816_0)).trans hx816_0)
        replace p816 := eq_true p816
        replace q816 := eq_true q816
        go_wp2_with (first | ((with_reducible refine gate_builtin (b := .append) (xs := #[.tmp 18, .tmp 26]) rfl ?_); at_builtin; refine Kd.R_append (Kd.int .i64) (w0 := w) w.heap.size rfl (.tmp 18) (.tmp 26) 24 3 (.int .i64 0) 8 rfl Try.underlying24 info3 rfl (by decide) (by omega) u9 x9_1 (Int.tmod (wrap64 ((wrap64 ((rd l1 x14_1) * a2)) + a3)) a0) [.int .i64 (Int.tmod (wrap64 ((wrap64 ((rd l1 x14_1) * a2)) + a3)) a0)] (fun _ => True) (fun _ => False) rfl rfl ?aP (fun _ hk => hk.elim) ?aF ?aO ?aB ?aS ?aL ?_; (case aP => exact rfl); (case aB => exact (atB HB)); (case aF => exact (fun _ _ => trivial)); (case aO => exact (atR HO_9)); (case aS => exact (szB HB)); (case aL => have := LMc9.out; omega); intro v818 w10 ho hb hg hat; rw [← Ny817.out] at ho; have HO819 := Aside0.mk (ho); replace HB := Aside0.mk (hb); clear HO_9; clear ho hb hg hat))
        go_roundg k1
        case measure => have := HK1.out; omega
        case rel => exact ⟨(y817), (wrap64 (x14_1 + 1)), eqd, H', ⟨by have := HK1.out; omega⟩, ⟨atR HO819⟩, ⟨atB HB⟩⟩
       ·rw [if_neg c9] at H
        exact absurd H (by simp)
     ·rw [if_neg c7] at H
      exact absurd H (by simp)
    ·rw [if_neg c6] at H
     exact absurd H (by simp)
   ·rw [if_neg c5] at H
    have c5b0 : decide (x14_1 < (l1.length : Int)) = false := decide_eq_false c5
    clear c5
    replace H := Option.bind_eq_some_iff.mp H
    obtain ⟨t820, A110, H⟩ := H
    replace H : (some t820) = some r := H
    have A11 := Aside0.mk A110
    clear A110
    obtain rfl := Option.some.inj H
    obtain ⟨Ao12, co12, eo12⟩ := Kd.R_slice HO_9.out
    subst eo12
    go_wp2_with (first | ((with_reducible refine gate_callee (f := 71) rfl ?_); refine goesA (some 30) Try.func71 #[.slice Ao12 x9_1.length co12] ?_; (with_reducible refine (slices_Sort_int_int.calls (fun k_ => some k_ = (.slice Ao12 x9_1.length co12 : Value).ownBlock) (.slice Ao12 x9_1.length co12) x9_1 t820 w _ ?side1 ?side2 A11.out).mono ?_); (case side1 => exact atB HB); (case side2 => exact Kd.R_tight rfl HO_9.out); rintro e w13 ⟨rfl, hy0, hb, hkp⟩; refine ⟨_, rfl, ?_⟩; replace HO_9 := Aside0.mk (Kd.R_reok rfl hy0 (fun k_ e_ => HO_9.out.1 k_ e_)); replace HB := Aside0.mk (hb); (try clear hb); (try clear hkp); (try clear hy0)))
    go_ret
    exact ⟨_, eqr, atR HO_9, atB HB⟩

noncomputable def impl_image.L0 (x0 : Int) (x2 : Int) (x3 : Int) (x9 : List Int) (x12 : List Int) (x13 : Int) (x14 : Int) : Option (List Int) := lim fun k => impl_image.l0 k x0 x2 x3 x9 x12 x13 x14
theorem impl_image.L0_lim (x0 : Int) (x2 : Int) (x3 : Int) (x9 : List Int) (x12 : List Int) (x13 : Int) (x14 : Int) : Lim (fun k => impl_image.l0 k x0 x2 x3 x9 x12 x13 x14) (impl_image.L0 x0 x2 x3 x9 x12 x13 x14) := Lim.of fun k => (impl_image.mono_l k) x0 x2 x3 x9 x12 x13 x14
noncomputable def impl_image.F (a0 : Int) (l1 : List Int) (a2 : Int) (a3 : Int) : Option (List Int) := lim fun k => impl_image.f k a0 l1 a2 a3
theorem impl_image.F_lim (a0 : Int) (l1 : List Int) (a2 : Int) (a3 : Int) : Lim (fun k => impl_image.f k a0 l1 a2 a3) (impl_image.F a0 l1 a2 a3) := Lim.of fun k => impl_image.mono a0 l1 a2 a3 k
theorem impl_image.L0_eq (x0 : Int) (x2 : Int) (x3 : Int) (x9 : List Int) (x12 : List Int) (x13 : Int) (x14 : Int) : impl_image.L0 x0 x2 x3 x9 x12 x13 x14 = (if x14 < x13 then (if 0 ≤ x14 then (if x14 < (x12.length : Int) then (if x0 = 0 then (none) else (if x9.length < 17592186044416 then (impl_image.L0 x0 x2 x3 (x9 ++ [Int.tmod (wrap64 ((wrap64 ((rd x12 x14) * x2)) + x3)) x0]) x12 x13 (wrap64 (x14 + 1))) else (none))) else (none)) else (none)) else ((slices_Sort_int_int.f x9).bind fun t820 => (some t820))) :=
 Lim.step (f := fun k => impl_image.l0 (k + 1) x0 x2 x3 x9 x12 x13 x14) (impl_image.L0_lim x0 x2 x3 x9 x12 x13 x14) (fun _ => rfl) (by
  simp only [impl_image.l0]
  repeat' (first | (with_reducible first | exact Lim.const _ | exact impl_image.L0_lim _ _ _ _ _ _ _ | refine Lim.ite ?_ ?_ | refine Lim.bind ?_ (fun _ => ?_))))
theorem impl_image.F_eq (a0 : Int) (l1 : List Int) (a2 : Int) (a3 : Int) : impl_image.F a0 l1 a2 a3 = (impl_image.L0 a0 a2 a3 ([] : List Int) l1 (l1.length : Int) 0) :=
 Lim.unique (impl_image.F_lim a0 l1 a2 a3) (by
  unfold impl_image.f
  repeat' (first | (with_reducible first | exact Lim.const _ | exact impl_image.L0_lim _ _ _ _ _ _ _ | refine Lim.ite ?_ ?_ | refine Lim.bind ?_ (fun _ => ?_))))

end Go.Proofs.Ytofjndbpndpjjaa.Fn
namespace Go.Proofs.Ytofjndbpndpjjaa.Fn
open Go.RowKit Go.Proofs.YtofjndbpndpjjaaW.PrintWords Go.Proofs.YtofjndbpndpjjaaW.PrintLast Go.Proofs.YtofjndbpndpjjaaW.PrintMore
attribute [local go_sem] max2_int min2_int max_two min_two max_three min_three max_four min_four   -- for this text's walks alone
set_option linter.unusedVariables false
set_option linter.unusedSimpArgs false

/-! ### impl_MoveSet: function 49 -/
def impl_MoveSet.f (k : Nat) (a0 : Int) (l1 : List Int) (a2 : Int) : Option (List Int × Bool) := (impl_IsCircleSet.f k a0 l1).bind fun t874 => (if t874 = true then (if a2 < 0 then (some (([] : List Int), false)) else (if a2 ≥ a0 then (some (([] : List Int), false)) else ((impl_image.f k a0 l1 1 a2).bind fun t875 => (some (t875, true))))) else (some (([] : List Int), false)))
theorem impl_MoveSet.mono : ∀ a0 a1 a2 k, LeO (impl_MoveSet.f k a0 a1 a2) (impl_MoveSet.f (k + 1) a0 a1 a2) := by
 intro a0 a1 a2 k
 unfold impl_MoveSet.f
 repeat' (first | (with_reducible first | exact impl_IsCircleSet.mono _ _ _ | exact impl_image.mono _ _ _ _ _ | exact LeO.refl _ | exact LeO.none _ | refine LeO.ite ?_ ?_ | refine LeO.bind ?_ (fun _ => ?_)) | exact impl_IsCircleSet.mono _ _ _ | exact impl_image.mono _ _ _ _ _ | exact LeO.none _ | refine LeO.ite ?_ ?_ | refine LeO.bind ?_ (fun _ => ?_))
set_option maxHeartbeats 8000000 in
set_option maxRecDepth 100000 in
theorem impl_MoveSet.calls (k : Nat) (a0 : Int) (A1 : Option Addr) (c1 : Nat) (l1 : List Int) (a2 : Int) (r1 : List Int) (r2 : Bool) (w : World) (hr1 : Kd.C (Kd.int .i64) w A1 l1.length l1) (hc1 : l1.length ≤ c1) (h : impl_MoveSet.f k a0 l1 a2 = some (r1, r2)) :
  Calls Try.prog 49 #[.int .i64 a0, .slice A1 l1.length c1, .int .i64 a2] w fun e w' => ∃ v0_ : Value, e = .returned (.tuple #[v0_, .bool r2]) ∧ Kd.R (Kd.int .i64) 3 w' w.heap.size (fun _ => True) v0_ r1 ∧ Below w.heap.size w w' := by
 have HR1 := Aside0.mk hr1
 have HC1 := Aside0.mk hc1
 clear hr1 hc1
 have HB := Aside0.mk (Below.refl w.heap.size w)
 have H := h
 unfold impl_MoveSet.f at H
 clear h
 replace H := Option.bind_eq_some_iff.mp H
 obtain ⟨t874, A40, H⟩ := H
 replace H : (if t874 = true then (if a2 < 0 then (some (([] : List Int), false)) else (if a2 ≥ a0 then (some (([] : List Int), false)) else ((impl_image.f k a0 l1 1 a2).bind fun t875 => (some (t875, true))))) else (some (([] : List Int), false))) = some (r1, r2) := H
 have A4 := Aside0.mk A40
 clear A40
 by_cases c5 : t874 = true
 ·subst c5
  have H1 : (if a2 < 0 then (some (([] : List Int), false)) else (if a2 ≥ a0 then (some (([] : List Int), false)) else ((impl_image.f k a0 l1 1 a2).bind fun t875 => (some (t875, true))))) = some (r1, r2) := by rw [if_pos rfl] at H; exact H
  clear H
  have H := H1
  clear H1
  by_cases c6 : a2 < 0
  ·rw [if_pos c6] at H
   have c6b0 : decide (a2 < 0) = true := decide_eq_true c6
   clear c6
   simp only [Option.some.injEq, Prod.mk.injEq] at H
   obtain ⟨rfl, rfl⟩ := H
   go_enter Try.func49, Try.ntmps49
   go_wp2_with (first | ((with_reducible refine gate_callee (f := 45) rfl ?_); refine goesA (some 10) Try.func45 #[.int .i64 a0, .slice A1 l1.length c1] ?_; (with_reducible refine (impl_IsCircleSet.calls k a0 _ _ l1 true _ ?side1 ?side2 A4.out).mono ?_); (case side1 => repeat (first | exact HR1.out | (with_reducible refine Kd.C_alloc ?_ _) | (with_reducible refine Kd.C_drewN ?_ _) | (with_reducible refine Kd.C_drew ?_))); (case side2 => exact HC1.out); rintro e w' ⟨rfl, ⟨nd, rfl⟩⟩; refine ⟨_, rfl, ?_⟩))
   go_ret2
   exact ⟨_, eqr, by first | exact Kd.R_nil _ _ _ _ _ | exact Kd.N_nil _ _ _ _ _ | exact Kd.V_nil _ _ _ _ _ | exact Kd.Q_nil _ _ _ _ _ | exact Kd.S_nil _ _ _ _ _, atB HB⟩
  ·rw [if_neg c6] at H
   have c6b0 : decide (a2 < 0) = false := decide_eq_false c6
   clear c6
   by_cases c7 : a2 ≥ a0
   ·rw [if_pos c7] at H
    have c7b0 : decide (a0 ≤ a2) = true := decide_eq_true c7
    clear c7
    simp only [Option.some.injEq, Prod.mk.injEq] at H
    obtain ⟨rfl, rfl⟩ := H
    go_enter Try.func49, Try.ntmps49
    go_wp2_with (first | ((with_reducible refine gate_callee (f := 45) rfl ?_); refine goesA (some 10) Try.func45 #[.int .i64 a0, .slice A1 l1.length c1] ?_; (with_reducible refine (impl_IsCircleSet.calls k a0 _ _ l1 true _ ?side1 ?side2 A4.out).mono ?_); (case side1 => repeat (first | exact HR1.out | (with_reducible refine Kd.C_alloc ?_ _) | (with_reducible refine Kd.C_drewN ?_ _) | (with_reducible refine Kd.C_drew ?_))); (case side2 => exact HC1.out); rintro e w' ⟨rfl, ⟨nd, rfl⟩⟩; refine ⟨_, rfl, ?_⟩))
    go_ret2
    exact ⟨_, eqr, by first | exact Kd.R_nil _ _ _ _ _ | exact Kd.N_nil _ _ _ _ _ | exact Kd.V_nil _ _ _ _ _ | exact Kd.Q_nil _ _ _ _ _ | exact Kd.S_nil _ _ _ _ _, atB HB⟩
   ·rw [if_neg c7] at H
    have c7b0 : decide (a0 ≤ a2) = false := decide_eq_false c7
    clear c7
    replace H := Option.bind_eq_some_iff.mp H
    obtain ⟨t875, A80, H⟩ := H
    replace H : (some (t875, true)) = some (r1, r2) := H
    have A8 := Aside0.mk A80
    clear A80
    simp only [Option.some.injEq, Prod.mk.injEq] at H
    obtain ⟨rfl, rfl⟩ := H
    go_enter Try.func49, Try.ntmps49
    go_wp2_with (first | ((with_reducible refine gate_callee (f := 45) rfl ?_); refine goesA (some 10) Try.func45 #[.int .i64 a0, .slice A1 l1.length c1] ?_; (with_reducible refine (impl_IsCircleSet.calls k a0 _ _ l1 true _ ?side1 ?side2 A4.out).mono ?_); (case side1 => repeat (first | exact HR1.out | (with_reducible refine Kd.C_alloc ?_ _) | (with_reducible refine Kd.C_drewN ?_ _) | (with_reducible refine Kd.C_drew ?_))); (case side2 => exact HC1.out); rintro e w' ⟨rfl, ⟨nd, rfl⟩⟩; refine ⟨_, rfl, ?_⟩) | ((with_reducible refine gate_callee (f := 86) rfl ?_); refine goesA (some 24) Try.func86 #[.int .i64 a0, .slice A1 l1.length c1, .int .i64 1, .int .i64 a2] ?_; (with_reducible refine (impl_image.calls k a0 _ _ l1 1 a2 t875 _ ?side1 ?side2 A8.out).mono ?_); (case side1 => repeat (first | exact HR1.out | (with_reducible refine Kd.C_alloc ?_ _) | (with_reducible refine Kd.C_drewN ?_ _) | (with_reducible refine Kd.C_drew ?_))); (case side2 => exact HC1.out); rintro e w9 ⟨v876, rfl, ho0, hb⟩; refine ⟨_, rfl, ?_⟩; have HO877 := lowR ho0 HB; replace HB := upB HB hb; (try clear hb); (try clear hb2); (try clear hk); (try clear hi); (try clear ho0)))
    go_ret2
    exact ⟨_, eqr, atR HO877, atB HB⟩
 ·replace c5 := Bool.eq_false_iff.mpr c5
  subst c5
  have H1 : (some (([] : List Int), false)) = some (r1, r2) := by rw [if_neg (show ¬ (false = true) by decide)] at H; exact H
  clear H
  have H := H1
  clear H1
  simp only [Option.some.injEq, Prod.mk.injEq] at H
  obtain ⟨rfl, rfl⟩ := H
  go_enter Try.func49, Try.ntmps49
  go_wp2_with (first | ((with_reducible refine gate_callee (f := 45) rfl ?_); refine goesA (some 10) Try.func45 #[.int .i64 a0, .slice A1 l1.length c1] ?_; (with_reducible refine (impl_IsCircleSet.calls k a0 _ _ l1 false _ ?side1 ?side2 A4.out).mono ?_); (case side1 => repeat (first | exact HR1.out | (with_reducible refine Kd.C_alloc ?_ _) | (with_reducible refine Kd.C_drewN ?_ _) | (with_reducible refine Kd.C_drew ?_))); (case side2 => exact HC1.out); rintro e w' ⟨rfl, ⟨nd, rfl⟩⟩; refine ⟨_, rfl, ?_⟩))
  go_ret2
  exact ⟨_, eqr, by first | exact Kd.R_nil _ _ _ _ _ | exact Kd.N_nil _ _ _ _ _ | exact Kd.V_nil _ _ _ _ _ | exact Kd.Q_nil _ _ _ _ _ | exact Kd.S_nil _ _ _ _ _, atB HB⟩

noncomputable def impl_MoveSet.F (a0 : Int) (l1 : List Int) (a2 : Int) : Option (List Int × Bool) := lim fun k => impl_MoveSet.f k a0 l1 a2
theorem impl_MoveSet.F_lim (a0 : Int) (l1 : List Int) (a2 : Int) : Lim (fun k => impl_MoveSet.f k a0 l1 a2) (impl_MoveSet.F a0 l1 a2) := Lim.of fun k => impl_MoveSet.mono a0 l1 a2 k
theorem impl_MoveSet.F_eq (a0 : Int) (l1 : List Int) (a2 : Int) : impl_MoveSet.F a0 l1 a2 = ((impl_IsCircleSet.F a0 l1).bind fun t874 => (if t874 = true then (if a2 < 0 then (some (([] : List Int), false)) else (if a2 ≥ a0 then (some (([] : List Int), false)) else ((impl_image.F a0 l1 1 a2).bind fun t875 => (some (t875, true))))) else (some (([] : List Int), false)))) :=
 Lim.unique (impl_MoveSet.F_lim a0 l1 a2) (by
  unfold impl_MoveSet.f
  repeat' (first | (with_reducible first | exact Lim.const _ | exact impl_IsCircleSet.F_lim _ _ | exact impl_image.F_lim _ _ _ _ | refine Lim.ite ?_ ?_ | refine Lim.bind ?_ (fun _ => ?_))))

end Go.Proofs.Ytofjndbpndpjjaa.Fn
namespace Go.Proofs.Ytofjndbpndpjjaa.Fn
open Go.RowKit Go.Proofs.YtofjndbpndpjjaaW.PrintWords Go.Proofs.YtofjndbpndpjjaaW.PrintLast Go.Proofs.YtofjndbpndpjjaaW.PrintMore
attribute [local go_sem] max2_int min2_int max_two min_two max_three min_three max_four min_four   -- for this text's walks alone
set_option linter.unusedVariables false
set_option linter.unusedSimpArgs false

/-! ### impl_common: function 85 -/
def impl_common.l0 : Nat → Int → Int → Option (Int)
 | 0, _, _ => none
 | k + 1, x0, x1 => if x1 > 0 then (if x1 = 0 then (none) else (impl_common.l0 k x1 (Int.tmod x0 x1))) else (some x0)
def impl_common.f (k : Nat) (a0 : Int) (a1 : Int) : Option (Int) := impl_common.l0 k a0 a1
theorem impl_common.mono_l : ∀ k, (∀ y0 y1, LeO (impl_common.l0 k y0 y1) (impl_common.l0 (k + 1) y0 y1))
 | 0 => fun _ _ r h => by simp [impl_common.l0] at h
 | k + 1 => by
  have ih0 := impl_common.mono_l k
  ·intro y0 y1
   unfold impl_common.l0
   repeat' (first | (with_reducible first | exact ih0 _ _ | exact LeO.refl _ | exact LeO.none _ | refine LeO.ite ?_ ?_ | refine LeO.bind ?_ (fun _ => ?_)) | exact ih0 _ _ | exact LeO.none _ | refine LeO.ite ?_ ?_ | refine LeO.bind ?_ (fun _ => ?_))
theorem impl_common.mono : ∀ a0 a1 k, LeO (impl_common.f k a0 a1) (impl_common.f (k + 1) a0 a1) := by
 intro a0 a1 k
 have ih0 := impl_common.mono_l k
 unfold impl_common.f
 repeat' (first | (with_reducible first | exact ih0 _ _ | exact LeO.refl _ | exact LeO.none _ | refine LeO.ite ?_ ?_ | refine LeO.bind ?_ (fun _ => ?_)) | exact ih0 _ _ | exact LeO.none _ | refine LeO.ite ?_ ?_ | refine LeO.bind ?_ (fun _ => ?_))
set_option maxHeartbeats 8000000 in
set_option maxRecDepth 100000 in
theorem impl_common.calls (k : Nat) (a0 : Int) (a1 : Int) (r : Int) (w : World) (h : impl_common.f k a0 a1 = some r) :
  Calls Try.prog 85 #[.int .i64 a0, .int .i64 a1] w fun e w' => e = .returned (.int .i64 r) ∧ Drawn0 w w' := by
 have H := h
 unfold impl_common.f at H
 clear h
 have H' := Aside0.mk H
 clear H
 go_enter Try.func85, Try.ntmps85
 go_wp2
 repeat (go_quiet (fail); try go_wp2)
 go_loopg [0, 1] k (fun kq v0 v1 w' => ∃ (x0_1 : Int) (x1_1 : Int), v0 = .int .i64 x0_1 ∧ v1 = .int .i64 x1_1 ∧ Aside0 (impl_common.l0 kq x0_1 x1_1 = some r) ∧ Aside0 (kq ≤ k) ∧ Drawn0 w w')
 case atStart => exact ⟨(a0), (a1), eqd, eqd, H', ⟨Nat.le_refl _⟩, by repeat (first | exact Drawn0.refl _ | apply Drawn0.step)⟩
 case round =>
  clear H'
  try clear p2
  obtain ⟨x0_1, x1_1, rfl, rfl, HA, HK1, ⟨m1, rfl⟩⟩ := hrel
  cases gk with
  | zero => exact absurd HA.out (by simp [impl_common.l0])
  | succ k1 =>
   have H := HA.out
   clear HA
   simp only [impl_common.l0] at H
   by_cases c3 : x1_1 > 0
   ·rw [if_pos c3] at H
    have c3b0 : decide (0 < x1_1) = true := decide_eq_true c3
    clear c3
    by_cases c4 : x1_1 = 0
    ·rw [if_pos c4] at H
     exact absurd H (by simp)
    ·rw [if_neg c4] at H
     have c4b0 : (x1_1 == 0) = false := beq_eq_false_iff_ne.mpr c4
     have c4b1 : (x1_1 != 0) = true := bne_iff_ne.mpr c4
     have H' := Aside0.mk H
     clear H
     go_wp2
     repeat (go_quiet (fail); try go_wp2)
     go_roundg k1
     case measure => have := HK1.out; omega
     case rel => exact ⟨(x1_1), (Int.tmod x0_1 x1_1), eqd, eqd, H', ⟨by have := HK1.out; omega⟩, by repeat (first | exact Drawn0.refl _ | apply Drawn0.step)⟩
   ·rw [if_neg c3] at H
    have c3b0 : decide (0 < x1_1) = false := decide_eq_false c3
    clear c3
    obtain rfl := Option.some.inj H
    go_wp2
    repeat (go_quiet (fail); try go_wp2)
    go_ret
    exact ⟨by first | rfl | (simp; done) | (simp [*]; done), by repeat (first | exact Drawn0.refl _ | apply Drawn0.step)⟩

noncomputable def impl_common.L0 (x0 : Int) (x1 : Int) : Option (Int) := lim fun k => impl_common.l0 k x0 x1
theorem impl_common.L0_lim (x0 : Int) (x1 : Int) : Lim (fun k => impl_common.l0 k x0 x1) (impl_common.L0 x0 x1) := Lim.of fun k => (impl_common.mono_l k) x0 x1
noncomputable def impl_common.F (a0 : Int) (a1 : Int) : Option (Int) := lim fun k => impl_common.f k a0 a1
theorem impl_common.F_lim (a0 : Int) (a1 : Int) : Lim (fun k => impl_common.f k a0 a1) (impl_common.F a0 a1) := Lim.of fun k => impl_common.mono a0 a1 k
theorem impl_common.L0_eq (x0 : Int) (x1 : Int) : impl_common.L0 x0 x1 = (if x1 > 0 then (if x1 = 0 then (none) else (impl_common.L0 x1 (Int.tmod x0 x1))) else (some x0)) :=
 Lim.step (f := fun k => impl_common.l0 (k + 1) x0 x1) (impl_common.L0_lim x0 x1) (fun _ => rfl) (by
  simp only [impl_common.l0]
  repeat' (first | (with_reducible first | exact Lim.const _ | exact impl_common.L0_lim _ _ | refine Lim.ite ?_ ?_ | refine Lim.bind ?_ (fun _ => ?_))))
theorem impl_common.F_eq (a0 : Int) (a1 : Int) : impl_common.F a0 a1 = (impl_common.L0 a0 a1) :=
 Lim.unique (impl_common.F_lim a0 a1) (by
  unfold impl_common.f
  repeat' (first | (with_reducible first | exact Lim.const _ | exact impl_common.L0_lim _ _ | refine Lim.ite ?_ ?_ | refine Lim.bind ?_ (fun _ => ?_))))

end Go.Proofs.Ytofjndbpndpjjaa.Fn
namespace Go.Proofs.Ytofjndbpndpjjaa.Fn
open Go.RowKit Go.Proofs.YtofjndbpndpjjaaW.PrintWords Go.Proofs.YtofjndbpndpjjaaW.PrintLast Go.Proofs.YtofjndbpndpjjaaW.PrintMore
attribute [local go_sem] max2_int min2_int max_two min_two max_three min_three max_four min_four   -- for this text's walks alone
set_option linter.unusedVariables false
set_option linter.unusedSimpArgs false

/-! ### slices_Equal_int_int: function 87 -/
def slices_Equal_int_int.l0 : Nat → List Int → List Int → Int → Int → Option (Bool)
 | 0, _, _, _, _ => none
 | k + 1, x0, x1, x12, x13 => if x13 < x12 then (if 0 ≤ x13 then (if x13 < (x0.length : Int) then (if x13 < (x1.length : Int) then (if (rd x0 x13) = (rd x1 x13) then (slices_Equal_int_int.l0 k x0 x1 x12 (wrap64 (x13 + 1))) else (some false)) else (none)) else (none)) else (none)) else (some true)
def slices_Equal_int_int.f (k : Nat) (l0 : List Int) (l1 : List Int) : Option (Bool) := if (l0.length : Int) = (l1.length : Int) then (slices_Equal_int_int.l0 k l0 l1 (l0.length : Int) 0) else (some false)
theorem slices_Equal_int_int.mono_l : ∀ k, (∀ y0 y1 y2 y3, LeO (slices_Equal_int_int.l0 k y0 y1 y2 y3) (slices_Equal_int_int.l0 (k + 1) y0 y1 y2 y3))
 | 0 => fun _ _ _ _ r h => by simp [slices_Equal_int_int.l0] at h
 | k + 1 => by
  have ih0 := slices_Equal_int_int.mono_l k
  ·intro y0 y1 y2 y3
   unfold slices_Equal_int_int.l0
   repeat' (first | (with_reducible first | exact ih0 _ _ _ _ | exact LeO.refl _ | exact LeO.none _ | refine LeO.ite ?_ ?_ | refine LeO.bind ?_ (fun _ => ?_)) | exact ih0 _ _ _ _ | exact LeO.none _ | refine LeO.ite ?_ ?_ | refine LeO.bind ?_ (fun _ => ?_))
theorem slices_Equal_int_int.mono : ∀ a0 a1 k, LeO (slices_Equal_int_int.f k a0 a1) (slices_Equal_int_int.f (k + 1) a0 a1) := by
 intro a0 a1 k
 have ih0 := slices_Equal_int_int.mono_l k
 unfold slices_Equal_int_int.f
 repeat' (first | (with_reducible first | exact ih0 _ _ _ _ | exact LeO.refl _ | exact LeO.none _ | refine LeO.ite ?_ ?_ | refine LeO.bind ?_ (fun _ => ?_)) | exact ih0 _ _ _ _ | exact LeO.none _ | refine LeO.ite ?_ ?_ | refine LeO.bind ?_ (fun _ => ?_))
set_option maxHeartbeats 8000000 in
set_option maxRecDepth 100000 in
theorem slices_Equal_int_int.calls (k : Nat) (A0 : Option Addr) (c0 : Nat) (l0 : List Int) (A1 : Option Addr) (c1 : Nat) (l1 : List Int) (r : Bool) (w : World) (hr0 : Kd.C (Kd.int .i64) w A0 l0.length l0) (hc0 : l0.length ≤ c0) (hr1 : Kd.C (Kd.int .i64) w A1 l1.length l1) (hc1 : l1.length ≤ c1) (h : slices_Equal_int_int.f k l0 l1 = some r) :
  Calls Try.prog 87 #[.slice A0 l0.length c0, .slice A1 l1.length c1] w fun e w' => e = .returned (.bool r) ∧ Drawn0 w w' := by
 have HR0 := Aside0.mk hr0
 have HC0 := Aside0.mk hc0
 clear hr0 hc0
 have HR1 := Aside0.mk hr1
 have HC1 := Aside0.mk hc1
 clear hr1 hc1
 have H := h
 unfold slices_Equal_int_int.f at H
 clear h
 by_cases c3 : (l0.length : Int) = (l1.length : Int)
 ·rw [if_pos c3] at H
  have c3b0 : ((l0.length : Int) == (l1.length : Int)) = true := beq_iff_eq.mpr c3
  have c3b1 : ((l0.length : Int) != (l1.length : Int)) = false := bne_eq_false_iff_eq.mpr c3
  have c3b2 : (l0.length == l1.length) = true := by first | simpa using c3 | (simp at c3 ⊢; omega)
  clear c3
  have H' := Aside0.mk H
  clear H
  go_enter Try.func87, Try.ntmps87
  go_wp2
  repeat (go_quiet (fail); try go_wp2)
  go_loopg [13] k (fun kq v13 w' => ∃ (x13_1 : Int), v13 = .int .i64 x13_1 ∧ Aside0 (slices_Equal_int_int.l0 kq l0 l1 (l0.length : Int) x13_1 = some r) ∧ Aside0 (kq ≤ k) ∧ Drawn0 w w')
  case atStart => exact ⟨(0), eqd, H', ⟨Nat.le_refl _⟩, by repeat (first | exact Drawn0.refl _ | apply Drawn0.step)⟩
  case round =>
   clear H'
   try clear c1
   try clear p2
   try clear c3
   try clear c3b0
   try clear c3b1
   try clear c3b2
   obtain ⟨x13_1, rfl, HA, HK1, ⟨m1, rfl⟩⟩ := hrel
   cases gk with
   | zero => exact absurd HA.out (by simp [slices_Equal_int_int.l0])
   | succ k1 =>
    have H := HA.out
    clear HA
    simp only [slices_Equal_int_int.l0] at H
    by_cases c4 : x13_1 < (l0.length : Int)
    ·rw [if_pos c4] at H
     have c4b0 : decide (x13_1 < (l0.length : Int)) = true := decide_eq_true c4
     clear c4
     by_cases c5 : 0 ≤ x13_1
     ·rw [if_pos c5] at H
      have c5b0 : decide (0 ≤ x13_1) = true := decide_eq_true c5
      clear c5
      by_cases c6 : x13_1 < (l0.length : Int)
      ·rw [if_pos c6] at H
       have c6b0 : decide (x13_1 < (l0.length : Int)) = true := decide_eq_true c6
       clear c6
       by_cases c7 : x13_1 < (l1.length : Int)
       ·rw [if_pos c7] at H
        have c7b0 : decide (x13_1 < (l1.length : Int)) = true := decide_eq_true c7
        clear c7
        by_cases c8 : (rd l0 x13_1) = (rd l1 x13_1)
        ·rw [if_pos c8] at H
         have c8b0 : ((rd l0 x13_1) == (rd l1 x13_1)) = true := beq_iff_eq.mpr c8
         have c8b1 : ((rd l0 x13_1) != (rd l1 x13_1)) = false := bne_eq_false_iff_eq.mpr c8
         clear c8
         have H' := Aside0.mk H
         clear H
         have p821 : 0 ≤ (x13_1 : Int) := ofd
         have q821 : x13_1 < (l0.length : Int) := ofd
         obtain ⟨ad821, e821, hx821_0⟩ := Kd.at_int HR0.out x13_1 p821 q821
         cases e821
         replace p821 := eq_true p821
         replace q821 := eq_true q821
         have p822 : 0 ≤ (x13_1 : Int) := ofd
         have q822 : x13_1 < (l1.length : Int) := ofd
         obtain ⟨ad822, e822, hx822_0⟩ := Kd.at_int HR1.out x13_1 p822 q822
         cases e822
         replace p822 := eq_true p822
         replace q822 := eq_true q822
         go_wp2
         repeat (go_quiet (fail); try go_wp2)
         go_roundg k1
         case measure => have := HK1.out; omega
         case rel => exact ⟨(wrap64 (x13_1 + 1)), eqd, H', ⟨by have := HK1.out; omega⟩, by repeat (first | exact Drawn0.refl _ | apply Drawn0.step)⟩
        ·rw [if_neg c8] at H
         have c8b0 : ((rd l0 x13_1) == (rd l1 x13_1)) = false := beq_eq_false_iff_ne.mpr c8
         have c8b1 : ((rd l0 x13_1) != (rd l1 x13_1)) = true := bne_iff_ne.mpr c8
         obtain rfl := Option.some.inj H
         have p821 : 0 ≤ (x13_1 : Int) := ofd
         have q821 : x13_1 < (l0.length : Int) := ofd
         obtain ⟨ad821, e821, hx821_0⟩ := Kd.at_int HR0.out x13_1 p821 q821
         cases e821
         replace p821 := eq_true p821
         replace q821 := eq_true q821
         have p822 : 0 ≤ (x13_1 : Int) := ofd
         have q822 : x13_1 < (l1.length : Int) := ofd
         obtain ⟨ad822, e822, hx822_0⟩ := Kd.at_int HR1.out x13_1 p822 q822
         cases e822
         replace p822 := eq_true p822
         replace q822 := eq_true q822
         go_wp2
         repeat (go_quiet (fail); try go_wp2)
         go_ret
         exact ⟨by first | rfl | (simp; done) | (simp [*]; done), by repeat (first | exact Drawn0.refl _ | apply Drawn0.step)⟩
       ·rw [if_neg c7] at H
        exact absurd H (by simp)
      ·rw [if_neg c6] at H
       exact absurd H (by simp)
     ·rw [if_neg c5] at H
      exact absurd H (by simp)
    ·rw [if_neg c4] at H
     have c4b0 : decide (x13_1 < (l0.length : Int)) = false := decide_eq_false c4
     clear c4
     obtain rfl := Option.some.inj H
     go_wp2
     repeat (go_quiet (fail); try go_wp2)
     go_ret
     exact ⟨by first | rfl | (simp; done) | (simp [*]; done), by repeat (first | exact Drawn0.refl _ | apply Drawn0.step)⟩
 ·rw [if_neg c3] at H
  have c3b0 : ((l0.length : Int) == (l1.length : Int)) = false := beq_eq_false_iff_ne.mpr c3
  have c3b1 : ((l0.length : Int) != (l1.length : Int)) = true := bne_iff_ne.mpr c3
  have c3b2 : (l0.length == l1.length) = false := by first | simpa using c3 | (simp at c3 ⊢; omega)
  obtain rfl := Option.some.inj H
  go_enter Try.func87, Try.ntmps87
  go_wp2
  repeat (go_quiet (fail); try go_wp2)
  go_ret
  exact ⟨by first | rfl | (simp; done) | (simp [*]; done), by repeat (first | exact Drawn0.refl _ | apply Drawn0.step)⟩

noncomputable def slices_Equal_int_int.L0 (x0 : List Int) (x1 : List Int) (x12 : Int) (x13 : Int) : Option (Bool) := lim fun k => slices_Equal_int_int.l0 k x0 x1 x12 x13
theorem slices_Equal_int_int.L0_lim (x0 : List Int) (x1 : List Int) (x12 : Int) (x13 : Int) : Lim (fun k => slices_Equal_int_int.l0 k x0 x1 x12 x13) (slices_Equal_int_int.L0 x0 x1 x12 x13) := Lim.of fun k => (slices_Equal_int_int.mono_l k) x0 x1 x12 x13
noncomputable def slices_Equal_int_int.F (l0 : List Int) (l1 : List Int) : Option (Bool) := lim fun k => slices_Equal_int_int.f k l0 l1
theorem slices_Equal_int_int.F_lim (l0 : List Int) (l1 : List Int) : Lim (fun k => slices_Equal_int_int.f k l0 l1) (slices_Equal_int_int.F l0 l1) := Lim.of fun k => slices_Equal_int_int.mono l0 l1 k
theorem slices_Equal_int_int.L0_eq (x0 : List Int) (x1 : List Int) (x12 : Int) (x13 : Int) : slices_Equal_int_int.L0 x0 x1 x12 x13 = (if x13 < x12 then (if 0 ≤ x13 then (if x13 < (x0.length : Int) then (if x13 < (x1.length : Int) then (if (rd x0 x13) = (rd x1 x13) then (slices_Equal_int_int.L0 x0 x1 x12 (wrap64 (x13 + 1))) else (some false)) else (none)) else (none)) else (none)) else (some true)) :=
 Lim.step (f := fun k => slices_Equal_int_int.l0 (k + 1) x0 x1 x12 x13) (slices_Equal_int_int.L0_lim x0 x1 x12 x13) (fun _ => rfl) (by
  simp only [slices_Equal_int_int.l0]
  repeat' (first | (with_reducible first | exact Lim.const _ | exact slices_Equal_int_int.L0_lim _ _ _ _ | refine Lim.ite ?_ ?_ | refine Lim.bind ?_ (fun _ => ?_))))
theorem slices_Equal_int_int.F_eq (l0 : List Int) (l1 : List Int) : slices_Equal_int_int.F l0 l1 = (if (l0.length : Int) = (l1.length : Int) then (slices_Equal_int_int.L0 l0 l1 (l0.length : Int) 0) else (some false)) :=
 Lim.unique (slices_Equal_int_int.F_lim l0 l1) (by
  unfold slices_Equal_int_int.f
  repeat' (first | (with_reducible first | exact Lim.const _ | exact slices_Equal_int_int.L0_lim _ _ _ _ | refine Lim.ite ?_ ?_ | refine Lim.bind ?_ (fun _ => ?_))))

end Go.Proofs.Ytofjndbpndpjjaa.Fn
namespace Go.Proofs.Ytofjndbpndpjjaa.Fn
open Go.RowKit Go.Proofs.YtofjndbpndpjjaaW.PrintWords Go.Proofs.YtofjndbpndpjjaaW.PrintLast Go.Proofs.YtofjndbpndpjjaaW.PrintMore
attribute [local go_sem] max2_int min2_int max_two min_two max_three min_three max_four min_four   -- for this text's walks alone
set_option linter.unusedVariables false
set_option linter.unusedSimpArgs false

/-! ### impl_MultipliersOf: function 40 -/
mutual
def impl_MultipliersOf.l0 : Nat → Int → List Int → List Int → Int → Option (List Int × Bool)
 | 0, _, _, _, _ => none
 | k + 1, x0, x1, x6, x7 => if x7 < x0 then ((impl_common.f k x0 x7).bind fun t824 => (if t824 > 1 then (impl_MultipliersOf.l0 k x0 x1 x6 (wrap64 (x7 + 1))) else ((impl_image.f k x0 x1 x7 0).bind fun t825 => (impl_MultipliersOf.l1 k x0 x1 x6 x7 t825 x0 0)))) else (some (x6, true))
def impl_MultipliersOf.l1 : Nat → Int → List Int → List Int → Int → List Int → Int → Int → Option (List Int × Bool)
 | 0, _, _, _, _, _, _, _ => none
 | k + 1, x0, x1, x6, x7, x8, x27, x28 => if x28 < x27 then ((impl_image.f k x0 x1 1 x28).bind fun t828 => ((slices_Equal_int_int.f k x8 t828).bind fun t831 => (if t831 = true then (if x6.length < 17592186044416 then (impl_MultipliersOf.l0 k x0 x1 (x6 ++ [x7]) (wrap64 (x7 + 1))) else (none)) else (impl_MultipliersOf.l1 k x0 x1 x6 x7 x8 x27 (wrap64 (x28 + 1)))))) else (impl_MultipliersOf.l0 k x0 x1 x6 (wrap64 (x7 + 1)))
end
def impl_MultipliersOf.f (k : Nat) (a0 : Int) (l1 : List Int) : Option (List Int × Bool) := (impl_IsCircleSet.f k a0 l1).bind fun t823 => (if t823 = true then (impl_MultipliersOf.l0 k a0 l1 ([] : List Int) 1) else (some (([] : List Int), false)))
theorem impl_MultipliersOf.mono_l : ∀ k, (∀ y0 y1 y2 y3, LeO (impl_MultipliersOf.l0 k y0 y1 y2 y3) (impl_MultipliersOf.l0 (k + 1) y0 y1 y2 y3)) ∧ (∀ y0 y1 y2 y3 y4 y5 y6, LeO (impl_MultipliersOf.l1 k y0 y1 y2 y3 y4 y5 y6) (impl_MultipliersOf.l1 (k + 1) y0 y1 y2 y3 y4 y5 y6))
 | 0 => ⟨fun _ _ _ _ r h => by simp [impl_MultipliersOf.l0] at h, fun _ _ _ _ _ _ _ r h => by simp [impl_MultipliersOf.l1] at h⟩
 | k + 1 => by
  obtain ⟨ih0, ih1⟩ := impl_MultipliersOf.mono_l k
  refine ⟨?_, ?_⟩
  ·intro y0 y1 y2 y3
   unfold impl_MultipliersOf.l0
   repeat' (first | (with_reducible first | exact ih0 _ _ _ _ | exact ih1 _ _ _ _ _ _ _ | exact impl_common.mono _ _ _ | exact impl_image.mono _ _ _ _ _ | exact LeO.refl _ | exact LeO.none _ | refine LeO.ite ?_ ?_ | refine LeO.bind ?_ (fun _ => ?_)) | exact ih0 _ _ _ _ | exact ih1 _ _ _ _ _ _ _ | exact impl_common.mono _ _ _ | exact impl_image.mono _ _ _ _ _ | exact LeO.none _ | refine LeO.ite ?_ ?_ | refine LeO.bind ?_ (fun _ => ?_))
  ·intro y0 y1 y2 y3 y4 y5 y6
   unfold impl_MultipliersOf.l1
   repeat' (first | (with_reducible first | exact ih0 _ _ _ _ | exact ih1 _ _ _ _ _ _ _ | exact impl_image.mono _ _ _ _ _ | exact slices_Equal_int_int.mono _ _ _ | exact LeO.refl _ | exact LeO.none _ | refine LeO.ite ?_ ?_ | refine LeO.bind ?_ (fun _ => ?_)) | exact ih0 _ _ _ _ | exact ih1 _ _ _ _ _ _ _ | exact impl_image.mono _ _ _ _ _ | exact slices_Equal_int_int.mono _ _ _ | exact LeO.none _ | refine LeO.ite ?_ ?_ | refine LeO.bind ?_ (fun _ => ?_))
theorem impl_MultipliersOf.mono : ∀ a0 a1 k, LeO (impl_MultipliersOf.f k a0 a1) (impl_MultipliersOf.f (k + 1) a0 a1) := by
 intro a0 a1 k
 obtain ⟨ih0, ih1⟩ := impl_MultipliersOf.mono_l k
 unfold impl_MultipliersOf.f
 repeat' (first | (with_reducible first | exact ih0 _ _ _ _ | exact impl_IsCircleSet.mono _ _ _ | exact LeO.refl _ | exact LeO.none _ | refine LeO.ite ?_ ?_ | refine LeO.bind ?_ (fun _ => ?_)) | exact ih0 _ _ _ _ | exact impl_IsCircleSet.mono _ _ _ | exact LeO.none _ | refine LeO.ite ?_ ?_ | refine LeO.bind ?_ (fun _ => ?_))
set_option maxHeartbeats 8000000 in
set_option maxRecDepth 100000 in
theorem impl_MultipliersOf.calls (k : Nat) (a0 : Int) (A1 : Option Addr) (c1 : Nat) (l1 : List Int) (r1 : List Int) (r2 : Bool) (w : World) (hr1 : Kd.C (Kd.int .i64) w A1 l1.length l1) (hc1 : l1.length ≤ c1) (h : impl_MultipliersOf.f k a0 l1 = some (r1, r2)) :
  Calls Try.prog 40 #[.int .i64 a0, .slice A1 l1.length c1] w fun e w' => ∃ v0_ : Value, e = .returned (.tuple #[v0_, .bool r2]) ∧ Kd.R (Kd.int .i64) 3 w' w.heap.size (fun _ => True) v0_ r1 ∧ Below w.heap.size w w' := by
 have HR1 := Aside0.mk hr1
 have HC1 := Aside0.mk hc1
 clear hr1 hc1
 have HB := Aside0.mk (Below.refl w.heap.size w)
 have H := h
 unfold impl_MultipliersOf.f at H
 clear h
 replace H := Option.bind_eq_some_iff.mp H
 obtain ⟨t823, A30, H⟩ := H
 replace H : (if t823 = true then (impl_MultipliersOf.l0 k a0 l1 ([] : List Int) 1) else (some (([] : List Int), false))) = some (r1, r2) := H
 have A3 := Aside0.mk A30
 clear A30
 by_cases c4 : t823 = true
 ·subst c4
  have H1 : (impl_MultipliersOf.l0 k a0 l1 ([] : List Int) 1) = some (r1, r2) := by rw [if_pos rfl] at H; exact H
  clear H
  have H := H1
  clear H1
  have H' := Aside0.mk H
  clear H
  go_enter Try.func40, Try.ntmps40
  go_wp2_with (first | ((with_reducible refine gate_callee (f := 45) rfl ?_); refine goesA (some 12) Try.func45 #[.int .i64 a0, .slice A1 l1.length c1] ?_; (with_reducible refine (impl_IsCircleSet.calls k a0 _ _ l1 true _ ?side1 ?side2 A3.out).mono ?_); (case side1 => repeat (first | exact HR1.out | (with_reducible refine Kd.C_alloc ?_ _) | (with_reducible refine Kd.C_drewN ?_ _) | (with_reducible refine Kd.C_drew ?_))); (case side2 => exact HC1.out); rintro e w' ⟨rfl, ⟨nd, rfl⟩⟩; refine ⟨_, rfl, ?_⟩))
  go_loopg [6, 7] k (fun kq v6 v7 w' => ∃ (x6_1 : List Int) (x7_1 : Int), v7 = .int .i64 x7_1 ∧ Aside0 (impl_MultipliersOf.l0 kq a0 l1 x6_1 x7_1 = some (r1, r2)) ∧ Aside0 (kq ≤ k) ∧ Aside0 (Kd.R (Kd.int .i64) 3 w' w.heap.size (fun _ => True) v6 x6_1) ∧ Aside0 (Below w.heap.size w w'))
  case atStart => exact ⟨(([] : List Int)), (1), eqd, H', ⟨Nat.le_refl _⟩, ⟨by first | exact Kd.R_nil _ _ _ _ _ | exact Kd.N_nil _ _ _ _ _ | exact Kd.V_nil _ _ _ _ _ | exact Kd.Q_nil _ _ _ _ _ | exact Kd.S_nil _ _ _ _ _⟩, ⟨atB HB⟩⟩
  case round =>
   clear H'
   try clear c1
   try clear p2
   try clear c4
   obtain ⟨x6_1, x7_1, rfl, HA, HK1, HO_6, HB⟩ := hrel
   cases gk with
   | zero => exact absurd HA.out (by simp [impl_MultipliersOf.l0])
   | succ k1 =>
    have H := HA.out
    clear HA
    simp only [impl_MultipliersOf.l0] at H
    by_cases c5 : x7_1 < a0
    ·rw [if_pos c5] at H
     have c5b0 : decide (x7_1 < a0) = true := decide_eq_true c5
     clear c5
     replace H := Option.bind_eq_some_iff.mp H
     obtain ⟨t824, A60, H⟩ := H
     replace H : (if t824 > 1 then (impl_MultipliersOf.l0 k1 a0 l1 x6_1 (wrap64 (x7_1 + 1))) else ((impl_image.f k1 a0 l1 x7_1 0).bind fun t825 => (impl_MultipliersOf.l1 k1 a0 l1 x6_1 x7_1 t825 a0 0))) = some (r1, r2) := H
     have A6 := Aside0.mk A60
     clear A60
     by_cases c7 : t824 > 1
     ·rw [if_pos c7] at H
      have c7b0 : decide (1 < t824) = true := decide_eq_true c7
      clear c7
      have H' := Aside0.mk H
      clear H
      go_wp2_with (first | ((with_reducible refine gate_callee (f := 85) rfl ?_); refine goesA (some 21) Try.func85 #[.int .i64 a0, .int .i64 x7_1] ?_; (with_reducible refine (impl_common.calls k1 a0 x7_1 t824 _ A6.out).mono ?_); rintro e w' ⟨rfl, ⟨nd, rfl⟩⟩; refine ⟨_, rfl, ?_⟩))
      go_roundg k1
      case measure => have := HK1.out; omega
      case rel => exact ⟨(x6_1), (wrap64 (x7_1 + 1)), eqd, H', ⟨by have := HK1.out; omega⟩, ⟨atR HO_6⟩, ⟨atB HB⟩⟩
     ·rw [if_neg c7] at H
      have c7b0 : decide (1 < t824) = false := decide_eq_false c7
      clear c7
      replace H := Option.bind_eq_some_iff.mp H
      obtain ⟨t825, A80, H⟩ := H
      replace H : (impl_MultipliersOf.l1 k1 a0 l1 x6_1 x7_1 t825 a0 0) = some (r1, r2) := H
      have A8 := Aside0.mk A80
      clear A80
      have H' := Aside0.mk H
      clear H
      go_wp2_with (first | ((with_reducible refine gate_callee (f := 85) rfl ?_); refine goesA (some 21) Try.func85 #[.int .i64 a0, .int .i64 x7_1] ?_; (with_reducible refine (impl_common.calls k1 a0 x7_1 t824 _ A6.out).mono ?_); rintro e w' ⟨rfl, ⟨nd, rfl⟩⟩; refine ⟨_, rfl, ?_⟩) | ((with_reducible refine gate_callee (f := 86) rfl ?_); refine goesA (some 26) Try.func86 #[.int .i64 a0, .slice A1 l1.length c1, .int .i64 x7_1, .int .i64 0] ?_; (with_reducible refine (impl_image.calls k1 a0 _ _ l1 x7_1 0 t825 _ ?side1 ?side2 A8.out).mono ?_); (case side1 => repeat (first | exact (Kd.C_below HR1.out (atB HB)) | (with_reducible refine Kd.C_alloc ?_ _) | (with_reducible refine Kd.C_drewN ?_ _) | (with_reducible refine Kd.C_drew ?_))); (case side2 => exact HC1.out); rintro e w9 ⟨v826, rfl, ho0, hb⟩; refine ⟨_, rfl, ?_⟩; have HO827 := Aside0.mk (Kd.R_lower (Kd.R_new' ho0 (ltR HO_6)) (szB HB)); replace HO_6 := eldRR HO_6 ho0 hb; replace HB := upB HB hb; (try clear hb); (try clear hb2); (try clear hk); (try clear hi); (try clear ho0)))
      go_loopg [6, 28] k1 (fun kq v6 v28 w' => ∃ (x6_2 : List Int) (x28_2 : Int), v28 = .int .i64 x28_2 ∧ Aside0 (impl_MultipliersOf.l1 kq a0 l1 x6_2 x7_1 t825 a0 x28_2 = some (r1, r2)) ∧ Aside0 (kq ≤ k1) ∧ Aside0 (Kd.R (Kd.int .i64) 3 w' w.heap.size (fun k_ => some k_ ≠ (v826 : Value).ownBlock) v6 x6_2) ∧ Aside0 (Kd.R (Kd.int .i64) 3 w' w.heap.size (fun k_ => some k_ ≠ (v6 : Value).ownBlock) v826 t825) ∧ Aside0 (Below w.heap.size w w'))
      case atStart => exact ⟨(x6_1), (0), eqd, H', ⟨Nat.le_refl _⟩, ⟨by (with_reducible repeat (first | apply Kd.R_alloc | apply Kd.R_drewN | apply Kd.R_drew)); exact Kd.R_mono HO_6.out (fun _ hk => hk.2)⟩, ⟨by (with_reducible repeat (first | apply Kd.R_alloc | apply Kd.R_drewN | apply Kd.R_drew)); exact Kd.R_mono HO827.out (fun _ hk => hk.2)⟩, ⟨atB HB⟩⟩
      case round =>
       clear H'
       try clear c1
       try clear p2
       try clear c4
       try clear c5
       try clear c5b0
       try clear p6
       try clear c7
       try clear c7b0
       try clear c8
       try clear p2
       obtain ⟨x6_2, x28_2, rfl, HA, HK2, HO_6, HO_8, HB⟩ := hrel
       cases gk with
       | zero => exact absurd HA.out (by simp [impl_MultipliersOf.l1])
       | succ k2 =>
        have H := HA.out
        clear HA
        simp only [impl_MultipliersOf.l1] at H
        by_cases c10 : x28_2 < a0
        ·rw [if_pos c10] at H
         have c10b0 : decide (x28_2 < a0) = true := decide_eq_true c10
         clear c10
         replace H := Option.bind_eq_some_iff.mp H
         obtain ⟨t828, A110, H⟩ := H
         replace H : ((slices_Equal_int_int.f k2 t825 t828).bind fun t831 => (if t831 = true then (if x6_2.length < 17592186044416 then (impl_MultipliersOf.l0 k2 a0 l1 (x6_2 ++ [x7_1]) (wrap64 (x7_1 + 1))) else (none)) else (impl_MultipliersOf.l1 k2 a0 l1 x6_2 x7_1 t825 a0 (wrap64 (x28_2 + 1))))) = some (r1, r2) := H
         have A11 := Aside0.mk A110
         clear A110
         replace H := Option.bind_eq_some_iff.mp H
         obtain ⟨t831, A120, H⟩ := H
         replace H : (if t831 = true then (if x6_2.length < 17592186044416 then (impl_MultipliersOf.l0 k2 a0 l1 (x6_2 ++ [x7_1]) (wrap64 (x7_1 + 1))) else (none)) else (impl_MultipliersOf.l1 k2 a0 l1 x6_2 x7_1 t825 a0 (wrap64 (x28_2 + 1)))) = some (r1, r2) := H
         have A12 := Aside0.mk A120
         clear A120
         by_cases c13 : t831 = true
         ·subst c13
          have H1 : (if x6_2.length < 17592186044416 then (impl_MultipliersOf.l0 k2 a0 l1 (x6_2 ++ [x7_1]) (wrap64 (x7_1 + 1))) else (none)) = some (r1, r2) := by rw [if_pos rfl] at H; exact H
          clear H
          have H := H1
          clear H1
          by_cases c14 : x6_2.length < 17592186044416
          ·rw [if_pos c14] at H
           have LMc14 := Aside0.mk c14
           clear c14
           obtain ⟨y832, hy832⟩ : ∃ y_ : List Int, y_ = (x6_2 ++ [x7_1]) := ⟨_, rfl⟩
           replace H : (impl_MultipliersOf.l0 k2 a0 l1 y832 (wrap64 (x7_1 + 1))) = some (r1, r2) := by first | (rw [hy832]; with_reducible exact H) | (have H2_ := (Option.bind_some _ _).symm.trans H; rw [hy832]; with_reducible exact H2_) | (have H2_ := (Option.bind_some _ _).symm.trans H; with_reducible exact H2_) | with_reducible exact H | (rw [hy832]; exact H) | exact H
           have Ny832 := Aside0.mk hy832
           clear hy832
           have H' := Aside0.mk H
           clear H
           go_wp2_with (first | ((with_reducible refine gate_callee (f := 86) rfl ?_); refine goesA (some 35) Try.func86 #[.int .i64 a0, .slice A1 l1.length c1, .int .i64 1, .int .i64 x28_2] ?_; (with_reducible refine (impl_image.calls k2 a0 _ _ l1 1 x28_2 t828 _ ?side1 ?side2 A11.out).mono ?_); (case side1 => repeat (first | exact (Kd.C_below HR1.out HB.out) | (with_reducible refine Kd.C_alloc ?_ _) | (with_reducible refine Kd.C_drewN ?_ _) | (with_reducible refine Kd.C_drew ?_))); (case side2 => exact HC1.out); rintro e w15 ⟨v829, rfl, ho0, hb⟩; refine ⟨_, rfl, ?_⟩; have HO830 := Aside0.mk (Kd.R_lower (Kd.R_new' (Kd.R_new' ho0 (ltR HO_6)) (ltR HO_8)) (szB HB)); replace HO_6 := eldRR HO_6 ho0 hb; replace HO_8 := eldRR HO_8 ho0 hb; replace HB := upB HB hb; (try clear hb); (try clear hb2); (try clear hk); (try clear hi); (try clear ho0); obtain ⟨Ao16, co16, eo16⟩ := Kd.R_slice HO_8.out; subst eo16; obtain ⟨Ao17, co17, eo17⟩ := Kd.R_slice HO830.out; subst eo17) | ((with_reducible refine gate_callee (f := 87) rfl ?_); refine goesA (some 36) Try.func87 #[.slice Ao16 t825.length co16, .slice Ao17 t828.length co17] ?_; (with_reducible refine (slices_Equal_int_int.calls k2 _ _ t825 _ _ t828 true _ ?side1 ?side2 ?side3 ?side4 A12.out).mono ?_); (case side1 => exact atRC HO_8); (case side2 => exact (Kd.R_reads' HO_8.out).2.1); (case side3 => exact atRC HO830); (case side4 => exact (Kd.R_reads' HO830.out).2.1); rintro e w' ⟨rfl, ⟨nd, rfl⟩⟩; refine ⟨_, rfl, ?_⟩) | ((with_reducible refine gate_builtin (b := .append) (xs := #[.tmp 37, .tmp 39]) rfl ?_); at_builtin; refine Kd.R_append (Kd.int .i64) (w0 := w) w.heap.size rfl (.tmp 37) (.tmp 39) 24 3 (.int .i64 0) 8 rfl Try.underlying24 info3 rfl (by decide) (by omega) u6 x6_2 x7_1 [.int .i64 x7_1] (fun k_ => some k_ ≠ (.slice Ao16 t825.length co16 : Value).ownBlock ∧ some k_ ≠ (.slice Ao17 t828.length co17 : Value).ownBlock) (fun _ => False) rfl rfl ?aP (fun _ hk => hk.elim) ?aF ?aO ?aB ?aS ?aL ?_; (case aP => exact rfl); (case aB => exact (atB HB)); (case aF => exact (fun k_ hk => ⟨Kd.fresh' (ltR HO_8) k_ hk, Kd.fresh' (ltR HO830) k_ hk⟩)); (case aO => exact (atR HO_6)); (case aS => exact (szB HB)); (case aL => have := LMc14.out; omega); intro v833 w18 ho hb hg hat; rw [← Ny832.out] at ho; have HO834 := Aside0.mk (ho); replace HO_8 := Aside0.mk (Kd.R_after (ok := (fun k_ => some k_ ≠ (.slice Ao17 t828.length co17 : Value).ownBlock)) (by (with_reducible repeat (first | apply Kd.R_alloc | apply Kd.R_drewN | apply Kd.R_drew)); exact Kd.R_mono HO_8.out (fun _ hk => ⟨hk.2, hk.1⟩)) hg hat); replace HO830 := Aside0.mk (Kd.R_after (ok := (fun k_ => some k_ ≠ (.slice Ao16 t825.length co16 : Value).ownBlock)) (by (with_reducible repeat (first | apply Kd.R_alloc | apply Kd.R_drewN | apply Kd.R_drew)); exact Kd.R_mono HO830.out (fun _ hk => ⟨hk.2, hk.1.2⟩)) hg hat); replace HB := Aside0.mk (hb); clear HO_6; clear ho hb hg hat))
           go_roundg k2
           case measure => have := HK1.out; have := HK2.out; omega
           case rel => exact ⟨(y832), (wrap64 (x7_1 + 1)), eqd, H', ⟨by have := HK1.out; have := HK2.out; omega⟩, ⟨by (with_reducible repeat (first | apply Kd.R_alloc | apply Kd.R_drewN | apply Kd.R_drew)); exact Kd.R_mono HO834.out (fun _ hk => trivial)⟩, ⟨atB HB⟩⟩
          ·rw [if_neg c14] at H
           exact absurd H (by simp)
         ·replace c13 := Bool.eq_false_iff.mpr c13
          subst c13
          have H1 : (impl_MultipliersOf.l1 k2 a0 l1 x6_2 x7_1 t825 a0 (wrap64 (x28_2 + 1))) = some (r1, r2) := by rw [if_neg (show ¬ (false = true) by decide)] at H; exact H
          clear H
          have H := H1
          clear H1
          have H' := Aside0.mk H
          clear H
          go_wp2_with (first | ((with_reducible refine gate_callee (f := 86) rfl ?_); refine goesA (some 35) Try.func86 #[.int .i64 a0, .slice A1 l1.length c1, .int .i64 1, .int .i64 x28_2] ?_; (with_reducible refine (impl_image.calls k2 a0 _ _ l1 1 x28_2 t828 _ ?side1 ?side2 A11.out).mono ?_); (case side1 => repeat (first | exact (Kd.C_below HR1.out HB.out) | (with_reducible refine Kd.C_alloc ?_ _) | (with_reducible refine Kd.C_drewN ?_ _) | (with_reducible refine Kd.C_drew ?_))); (case side2 => exact HC1.out); rintro e w19 ⟨v829, rfl, ho0, hb⟩; refine ⟨_, rfl, ?_⟩; have HO830 := Aside0.mk (Kd.R_lower (Kd.R_new' (Kd.R_new' ho0 (ltR HO_6)) (ltR HO_8)) (szB HB)); replace HO_6 := eldRR HO_6 ho0 hb; replace HO_8 := eldRR HO_8 ho0 hb; replace HB := upB HB hb; (try clear hb); (try clear hb2); (try clear hk); (try clear hi); (try clear ho0); obtain ⟨Ao20, co20, eo20⟩ := Kd.R_slice HO_8.out; subst eo20; obtain ⟨Ao21, co21, eo21⟩ := Kd.R_slice HO830.out; subst eo21) | ((with_reducible refine gate_callee (f := 87) rfl ?_); refine goesA (some 36) Try.func87 #[.slice Ao20 t825.length co20, .slice Ao21 t828.length co21] ?_; (with_reducible refine (slices_Equal_int_int.calls k2 _ _ t825 _ _ t828 false _ ?side1 ?side2 ?side3 ?side4 A12.out).mono ?_); (case side1 => exact atRC HO_8); (case side2 => exact (Kd.R_reads' HO_8.out).2.1); (case side3 => exact atRC HO830); (case side4 => exact (Kd.R_reads' HO830.out).2.1); rintro e w' ⟨rfl, ⟨nd, rfl⟩⟩; refine ⟨_, rfl, ?_⟩))
          go_roundg k2
          case measure => have := HK1.out; have := HK2.out; omega
          case rel => exact ⟨(x6_2), (wrap64 (x28_2 + 1)), eqd, H', ⟨by have := HK1.out; have := HK2.out; omega⟩, ⟨by (with_reducible repeat (first | apply Kd.R_alloc | apply Kd.R_drewN | apply Kd.R_drew)); exact Kd.R_mono HO_6.out (fun _ hk => hk.1)⟩, ⟨by (with_reducible repeat (first | apply Kd.R_alloc | apply Kd.R_drewN | apply Kd.R_drew)); exact Kd.R_mono HO_8.out (fun _ hk => hk.1)⟩, ⟨atB HB⟩⟩
        ·rw [if_neg c10] at H
         have c10b0 : decide (x28_2 < a0) = false := decide_eq_false c10
         clear c10
         have H' := Aside0.mk H
         clear H
         go_wp2
         go_roundg k2
         case measure => have := HK1.out; have := HK2.out; omega
         case rel => exact ⟨(x6_2), (wrap64 (x7_1 + 1)), eqd, H', ⟨by have := HK1.out; have := HK2.out; omega⟩, ⟨by (with_reducible repeat (first | apply Kd.R_alloc | apply Kd.R_drewN | apply Kd.R_drew)); exact Kd.R_mono HO_6.out (fun _ hk => trivial)⟩, ⟨atB HB⟩⟩
    ·rw [if_neg c5] at H
     have c5b0 : decide (x7_1 < a0) = false := decide_eq_false c5
     clear c5
     simp only [Option.some.injEq, Prod.mk.injEq] at H
     obtain ⟨rfl, rfl⟩ := H
     go_wp2
     go_ret2
     exact ⟨_, eqr, atR HO_6, atB HB⟩
 ·replace c4 := Bool.eq_false_iff.mpr c4
  subst c4
  have H1 : (some (([] : List Int), false)) = some (r1, r2) := by rw [if_neg (show ¬ (false = true) by decide)] at H; exact H
  clear H
  have H := H1
  clear H1
  simp only [Option.some.injEq, Prod.mk.injEq] at H
  obtain ⟨rfl, rfl⟩ := H
  go_enter Try.func40, Try.ntmps40
  go_wp2_with (first | ((with_reducible refine gate_callee (f := 45) rfl ?_); refine goesA (some 12) Try.func45 #[.int .i64 a0, .slice A1 l1.length c1] ?_; (with_reducible refine (impl_IsCircleSet.calls k a0 _ _ l1 false _ ?side1 ?side2 A3.out).mono ?_); (case side1 => repeat (first | exact HR1.out | (with_reducible refine Kd.C_alloc ?_ _) | (with_reducible refine Kd.C_drewN ?_ _) | (with_reducible refine Kd.C_drew ?_))); (case side2 => exact HC1.out); rintro e w' ⟨rfl, ⟨nd, rfl⟩⟩; refine ⟨_, rfl, ?_⟩))
  go_ret2
  exact ⟨_, eqr, by first | exact Kd.R_nil _ _ _ _ _ | exact Kd.N_nil _ _ _ _ _ | exact Kd.V_nil _ _ _ _ _ | exact Kd.Q_nil _ _ _ _ _ | exact Kd.S_nil _ _ _ _ _, atB HB⟩

noncomputable def impl_MultipliersOf.L0 (x0 : Int) (x1 : List Int) (x6 : List Int) (x7 : Int) : Option (List Int × Bool) := lim fun k => impl_MultipliersOf.l0 k x0 x1 x6 x7
theorem impl_MultipliersOf.L0_lim (x0 : Int) (x1 : List Int) (x6 : List Int) (x7 : Int) : Lim (fun k => impl_MultipliersOf.l0 k x0 x1 x6 x7) (impl_MultipliersOf.L0 x0 x1 x6 x7) := Lim.of fun k => (impl_MultipliersOf.mono_l k).1 x0 x1 x6 x7
noncomputable def impl_MultipliersOf.L1 (x0 : Int) (x1 : List Int) (x6 : List Int) (x7 : Int) (x8 : List Int) (x27 : Int) (x28 : Int) : Option (List Int × Bool) := lim fun k => impl_MultipliersOf.l1 k x0 x1 x6 x7 x8 x27 x28
theorem impl_MultipliersOf.L1_lim (x0 : Int) (x1 : List Int) (x6 : List Int) (x7 : Int) (x8 : List Int) (x27 : Int) (x28 : Int) : Lim (fun k => impl_MultipliersOf.l1 k x0 x1 x6 x7 x8 x27 x28) (impl_MultipliersOf.L1 x0 x1 x6 x7 x8 x27 x28) := Lim.of fun k => (impl_MultipliersOf.mono_l k).2 x0 x1 x6 x7 x8 x27 x28
noncomputable def impl_MultipliersOf.F (a0 : Int) (l1 : List Int) : Option (List Int × Bool) := lim fun k => impl_MultipliersOf.f k a0 l1
theorem impl_MultipliersOf.F_lim (a0 : Int) (l1 : List Int) : Lim (fun k => impl_MultipliersOf.f k a0 l1) (impl_MultipliersOf.F a0 l1) := Lim.of fun k => impl_MultipliersOf.mono a0 l1 k
theorem impl_MultipliersOf.L0_eq (x0 : Int) (x1 : List Int) (x6 : List Int) (x7 : Int) : impl_MultipliersOf.L0 x0 x1 x6 x7 = (if x7 < x0 then ((impl_common.F x0 x7).bind fun t824 => (if t824 > 1 then (impl_MultipliersOf.L0 x0 x1 x6 (wrap64 (x7 + 1))) else ((impl_image.F x0 x1 x7 0).bind fun t825 => (impl_MultipliersOf.L1 x0 x1 x6 x7 t825 x0 0)))) else (some (x6, true))) :=
 Lim.step (f := fun k => impl_MultipliersOf.l0 (k + 1) x0 x1 x6 x7) (impl_MultipliersOf.L0_lim x0 x1 x6 x7) (fun _ => rfl) (by
  simp only [impl_MultipliersOf.l0]
  repeat' (first | (with_reducible first | exact Lim.const _ | exact impl_MultipliersOf.L0_lim _ _ _ _ | exact impl_MultipliersOf.L1_lim _ _ _ _ _ _ _ | exact impl_common.F_lim _ _ | exact impl_image.F_lim _ _ _ _ | refine Lim.ite ?_ ?_ | refine Lim.bind ?_ (fun _ => ?_))))
theorem impl_MultipliersOf.L1_eq (x0 : Int) (x1 : List Int) (x6 : List Int) (x7 : Int) (x8 : List Int) (x27 : Int) (x28 : Int) : impl_MultipliersOf.L1 x0 x1 x6 x7 x8 x27 x28 = (if x28 < x27 then ((impl_image.F x0 x1 1 x28).bind fun t828 => ((slices_Equal_int_int.F x8 t828).bind fun t831 => (if t831 = true then (if x6.length < 17592186044416 then (impl_MultipliersOf.L0 x0 x1 (x6 ++ [x7]) (wrap64 (x7 + 1))) else (none)) else (impl_MultipliersOf.L1 x0 x1 x6 x7 x8 x27 (wrap64 (x28 + 1)))))) else (impl_MultipliersOf.L0 x0 x1 x6 (wrap64 (x7 + 1)))) :=
 Lim.step (f := fun k => impl_MultipliersOf.l1 (k + 1) x0 x1 x6 x7 x8 x27 x28) (impl_MultipliersOf.L1_lim x0 x1 x6 x7 x8 x27 x28) (fun _ => rfl) (by
  simp only [impl_MultipliersOf.l1]
  repeat' (first | (with_reducible first | exact Lim.const _ | exact impl_MultipliersOf.L0_lim _ _ _ _ | exact impl_MultipliersOf.L1_lim _ _ _ _ _ _ _ | exact impl_image.F_lim _ _ _ _ | exact slices_Equal_int_int.F_lim _ _ | refine Lim.ite ?_ ?_ | refine Lim.bind ?_ (fun _ => ?_))))
theorem impl_MultipliersOf.F_eq (a0 : Int) (l1 : List Int) : impl_MultipliersOf.F a0 l1 = ((impl_IsCircleSet.F a0 l1).bind fun t823 => (if t823 = true then (impl_MultipliersOf.L0 a0 l1 ([] : List Int) 1) else (some (([] : List Int), false)))) :=
 Lim.unique (impl_MultipliersOf.F_lim a0 l1) (by
  unfold impl_MultipliersOf.f
  repeat' (first | (with_reducible first | exact Lim.const _ | exact impl_IsCircleSet.F_lim _ _ | exact impl_MultipliersOf.L0_lim _ _ _ _ | refine Lim.ite ?_ ?_ | refine Lim.bind ?_ (fun _ => ?_))))

end Go.Proofs.Ytofjndbpndpjjaa.Fn
namespace Go.Proofs.Ytofjndbpndpjjaa.Fn
open Go.RowKit Go.Proofs.YtofjndbpndpjjaaW.PrintWords Go.Proofs.YtofjndbpndpjjaaW.PrintLast Go.Proofs.YtofjndbpndpjjaaW.PrintMore
attribute [local go_sem] max2_int min2_int max_two min_two max_three min_three max_four min_four   -- for this text's walks alone
set_option linter.unusedVariables false
set_option linter.unusedSimpArgs false

/-! ### impl_unlike: function 94 -/
def impl_unlike.l0 : Nat → List Int → List Int → Int → Int → Option (Bool)
 | 0, _, _, _, _ => none
 | k + 1, x0, x5, x6, x7 => if x7 < x6 then (if 0 ≤ x7 then (if x7 < (x5.length : Int) then (if x7 ≤ (x0.length : Int) then ((slices_Contains_int_int.f k (x0.take (x7 : Int).toNat) (rd x5 x7)).bind fun t886 => (if t886 = true then (some false) else (impl_unlike.l0 k x0 x5 x6 (wrap64 (x7 + 1))))) else (none)) else (none)) else (none)) else (some true)
def impl_unlike.f (k : Nat) (l0 : List Int) : Option (Bool) := impl_unlike.l0 k l0 l0 (l0.length : Int) 0
theorem impl_unlike.mono_l : ∀ k, (∀ y0 y1 y2 y3, LeO (impl_unlike.l0 k y0 y1 y2 y3) (impl_unlike.l0 (k + 1) y0 y1 y2 y3))
 | 0 => fun _ _ _ _ r h => by simp [impl_unlike.l0] at h
 | k + 1 => by
  have ih0 := impl_unlike.mono_l k
  ·intro y0 y1 y2 y3
   unfold impl_unlike.l0
   repeat' (first | (with_reducible first | exact ih0 _ _ _ _ | exact slices_Contains_int_int.mono _ _ _ | exact LeO.refl _ | exact LeO.none _ | refine LeO.ite ?_ ?_ | refine LeO.bind ?_ (fun _ => ?_)) | exact ih0 _ _ _ _ | exact slices_Contains_int_int.mono _ _ _ | exact LeO.none _ | refine LeO.ite ?_ ?_ | refine LeO.bind ?_ (fun _ => ?_))
theorem impl_unlike.mono : ∀ a0 k, LeO (impl_unlike.f k a0) (impl_unlike.f (k + 1) a0) := by
 intro a0 k
 have ih0 := impl_unlike.mono_l k
 unfold impl_unlike.f
 repeat' (first | (with_reducible first | exact ih0 _ _ _ _ | exact LeO.refl _ | exact LeO.none _ | refine LeO.ite ?_ ?_ | refine LeO.bind ?_ (fun _ => ?_)) | exact ih0 _ _ _ _ | exact LeO.none _ | refine LeO.ite ?_ ?_ | refine LeO.bind ?_ (fun _ => ?_))
set_option maxHeartbeats 8000000 in
set_option maxRecDepth 100000 in
theorem impl_unlike.calls (k : Nat) (A0 : Option Addr) (c0 : Nat) (l0 : List Int) (r : Bool) (w : World) (hr0 : Kd.C (Kd.int .i64) w A0 l0.length l0) (hc0 : l0.length ≤ c0) (h : impl_unlike.f k l0 = some r) :
  Calls Try.prog 94 #[.slice A0 l0.length c0] w fun e w' => e = .returned (.bool r) ∧ Drawn0 w w' := by
 have HR0 := Aside0.mk hr0
 have HC0 := Aside0.mk hc0
 clear hr0 hc0
 have H := h
 unfold impl_unlike.f at H
 clear h
 have H' := Aside0.mk H
 clear H
 go_enter Try.func94, Try.ntmps94
 go_wp2
 go_loopg [7] k (fun kq v7 w' => ∃ (x7_1 : Int), v7 = .int .i64 x7_1 ∧ Aside0 (impl_unlike.l0 kq l0 l0 (l0.length : Int) x7_1 = some r) ∧ Aside0 (kq ≤ k) ∧ Drawn0 w w')
 case atStart => exact ⟨(0), eqd, H', ⟨Nat.le_refl _⟩, by repeat (first | exact Drawn0.refl _ | apply Drawn0.step)⟩
 case round =>
  clear H'
  obtain ⟨x7_1, rfl, HA, HK1, ⟨m1, rfl⟩⟩ := hrel
  cases gk with
  | zero => exact absurd HA.out (by simp [impl_unlike.l0])
  | succ k1 =>
   have H := HA.out
   clear HA
   simp only [impl_unlike.l0] at H
   by_cases c2 : x7_1 < (l0.length : Int)
   ·rw [if_pos c2] at H
    have c2b0 : decide (x7_1 < (l0.length : Int)) = true := decide_eq_true c2
    clear c2
    by_cases c3 : 0 ≤ x7_1
    ·rw [if_pos c3] at H
     have c3b0 : decide (0 ≤ x7_1) = true := decide_eq_true c3
     clear c3
     by_cases c4 : x7_1 < (l0.length : Int)
     ·rw [if_pos c4] at H
      have c4b0 : decide (x7_1 < (l0.length : Int)) = true := decide_eq_true c4
      clear c4
      have c5b0 := eq_true (of_decide_eq_true (by first | (with_reducible assumption) | assumption) : 0 ≤ x7_1)
      by_cases c6 : x7_1 ≤ (l0.length : Int)
      ·rw [if_pos c6] at H
       have c6b0 := eq_true c6
       have c6b1 : decide (x7_1 ≤ (l0.length : Int)) = true := decide_eq_true c6
       clear c6
       replace H := Option.bind_eq_some_iff.mp H
       obtain ⟨t886, A70, H⟩ := H
       replace H : (if t886 = true then (some false) else (impl_unlike.l0 k1 l0 l0 (l0.length : Int) (wrap64 (x7_1 + 1)))) = some r := H
       have A7 := Aside0.mk A70
       clear A70
       by_cases c8 : t886 = true
       ·subst c8
        have H1 : (some false) = some r := by rw [if_pos rfl] at H; exact H
        clear H
        have H := H1
        clear H1
        obtain rfl := Option.some.inj H
        have p884 : 0 ≤ (x7_1 : Int) := ofd
        have q884 : x7_1 < (l0.length : Int) := ofd
        obtain ⟨ad884, e884, hx884_0⟩ := Kd.at_int HR0.out x7_1 p884 q884
        cases e884
        replace p884 := eq_true p884
        replace q884 := eq_true q884
        obtain ⟨i09, hi09, _, hsz9, _⟩ := info_parts info3
        obtain ⟨hcut9, hA9, hC9⟩ := print_take_of (P := Try.prog) (Value.int .i64) 0 24 3 .i64 Try.underlying24 hi09 hsz9 (some ad884) c0 l0 x7_1 (of_decide_eq_true (by first | (with_reducible assumption) | assumption)) (of_decide_eq_true (by first | (with_reducible assumption) | assumption)) HC0.out
        have HR885 := Aside0.mk (Kd.C_of_reads (h1 := fun _ => rfl) (hA9 _ (Kd.reads_of_C HR0.out)))
        have HC885 := Aside0.mk hC9
        clear hA9 hC9 hi09 hsz9
        go_wp2_with (first | ((with_reducible refine gate_callee (f := 69) rfl ?_); refine goesL_ (some 16) rfl rfl Try.func69 (by kernel_rfl) rfl #[.slice (some ad884) (l0.take (x7_1 : Int).toNat).length c0, .int .i64 (rd l0 x7_1)] rfl (by (try simp only [List.map_toArray, List.map_cons, List.map_nil]); first | done | (rw [show (l0.take (x7_1 : Int).toNat).length = x7_1.toNat from (by rw [List.length_take]; have h_ : (x7_1 : Int) ≤ (l0.length : Int) := ofd; omega)] <;> rfl) | rfl | (simp only [List.length_drop, List.length_take]; rfl)) ?_; (with_reducible refine (slices_Contains_int_int.calls k1 _ _ (l0.take (x7_1 : Int).toNat) (rd l0 x7_1) true _ ?side1 ?side2 A7.out).mono ?_); (case side1 => repeat (first | exact HR885.out | (with_reducible refine Kd.C_alloc ?_ _) | (with_reducible refine Kd.C_drewN ?_ _) | (with_reducible refine Kd.C_drew ?_))); (case side2 => exact HC885.out); rintro e w' ⟨rfl, ⟨nd, rfl⟩⟩; refine ⟨_, rfl, ?_⟩))
        go_ret
        exact ⟨by first | rfl | (simp; done) | (simp [*]; done), by repeat (first | exact Drawn0.refl _ | apply Drawn0.step)⟩
       ·replace c8 := Bool.eq_false_iff.mpr c8
        subst c8
        have H1 : (impl_unlike.l0 k1 l0 l0 (l0.length : Int) (wrap64 (x7_1 + 1))) = some r := by rw [if_neg (show ¬ (false = true) by decide)] at H; exact H
        clear H
        have H := H1
        clear H1
        have H' := Aside0.mk H
        clear H
        have p884 : 0 ≤ (x7_1 : Int) := ofd
        have q884 : x7_1 < (l0.length : Int) := ofd
        obtain ⟨ad884, e884, hx884_0⟩ := Kd.at_int HR0.out x7_1 p884 q884
        cases e884
        replace p884 := eq_true p884
        replace q884 := eq_true q884
        obtain ⟨i010, hi010, _, hsz10, _⟩ := info_parts info3
        obtain ⟨hcut10, hA10, hC10⟩ := print_take_of (P := Try.prog) (Value.int .i64) 0 24 3 .i64 Try.underlying24 hi010 hsz10 (some ad884) c0 l0 x7_1 (of_decide_eq_true (by first | (with_reducible assumption) | assumption)) (of_decide_eq_true (by first | (with_reducible assumption) | assumption)) HC0.out
        have HR885 := Aside0.mk (Kd.C_of_reads (h1 := fun _ => rfl) (hA10 _ (Kd.reads_of_C HR0.out)))
        have HC885 := Aside0.mk hC10
        clear hA10 hC10 hi010 hsz10
        go_wp2_with (first | ((with_reducible refine gate_callee (f := 69) rfl ?_); refine goesL_ (some 16) rfl rfl Try.func69 (by kernel_rfl) rfl #[.slice (some ad884) (l0.take (x7_1 : Int).toNat).length c0, .int .i64 (rd l0 x7_1)] rfl (by (try simp only [List.map_toArray, List.map_cons, List.map_nil]); first | done | (rw [show (l0.take (x7_1 : Int).toNat).length = x7_1.toNat from (by rw [List.length_take]; have h_ : (x7_1 : Int) ≤ (l0.length : Int) := ofd; omega)] <;> rfl) | rfl | (simp only [List.length_drop, List.length_take]; rfl)) ?_; (with_reducible refine (slices_Contains_int_int.calls k1 _ _ (l0.take (x7_1 : Int).toNat) (rd l0 x7_1) false _ ?side1 ?side2 A7.out).mono ?_); (case side1 => repeat (first | exact HR885.out | (with_reducible refine Kd.C_alloc ?_ _) | (with_reducible refine Kd.C_drewN ?_ _) | (with_reducible refine Kd.C_drew ?_))); (case side2 => exact HC885.out); rintro e w' ⟨rfl, ⟨nd, rfl⟩⟩; refine ⟨_, rfl, ?_⟩))
        go_roundg k1
        case measure => have := HK1.out; omega
        case rel => exact ⟨(wrap64 (x7_1 + 1)), eqd, H', ⟨by have := HK1.out; omega⟩, by repeat (first | exact Drawn0.refl _ | apply Drawn0.step)⟩
      ·rw [if_neg c6] at H
       exact absurd H (by simp)
     ·rw [if_neg c4] at H
      exact absurd H (by simp)
    ·rw [if_neg c3] at H
     exact absurd H (by simp)
   ·rw [if_neg c2] at H
    have c2b0 : decide (x7_1 < (l0.length : Int)) = false := decide_eq_false c2
    clear c2
    obtain rfl := Option.some.inj H
    go_wp2
    go_ret
    exact ⟨by first | rfl | (simp; done) | (simp [*]; done), by repeat (first | exact Drawn0.refl _ | apply Drawn0.step)⟩

noncomputable def impl_unlike.L0 (x0 : List Int) (x5 : List Int) (x6 : Int) (x7 : Int) : Option (Bool) := lim fun k => impl_unlike.l0 k x0 x5 x6 x7
theorem impl_unlike.L0_lim (x0 : List Int) (x5 : List Int) (x6 : Int) (x7 : Int) : Lim (fun k => impl_unlike.l0 k x0 x5 x6 x7) (impl_unlike.L0 x0 x5 x6 x7) := Lim.of fun k => (impl_unlike.mono_l k) x0 x5 x6 x7
noncomputable def impl_unlike.F (l0 : List Int) : Option (Bool) := lim fun k => impl_unlike.f k l0
theorem impl_unlike.F_lim (l0 : List Int) : Lim (fun k => impl_unlike.f k l0) (impl_unlike.F l0) := Lim.of fun k => impl_unlike.mono l0 k
theorem impl_unlike.L0_eq (x0 : List Int) (x5 : List Int) (x6 : Int) (x7 : Int) : impl_unlike.L0 x0 x5 x6 x7 = (if x7 < x6 then (if 0 ≤ x7 then (if x7 < (x5.length : Int) then (if x7 ≤ (x0.length : Int) then ((slices_Contains_int_int.F (x0.take (x7 : Int).toNat) (rd x5 x7)).bind fun t886 => (if t886 = true then (some false) else (impl_unlike.L0 x0 x5 x6 (wrap64 (x7 + 1))))) else (none)) else (none)) else (none)) else (some true)) :=
 Lim.step (f := fun k => impl_unlike.l0 (k + 1) x0 x5 x6 x7) (impl_unlike.L0_lim x0 x5 x6 x7) (fun _ => rfl) (by
  simp only [impl_unlike.l0]
  repeat' (first | (with_reducible first | exact Lim.const _ | exact impl_unlike.L0_lim _ _ _ _ | exact slices_Contains_int_int.F_lim _ _ | refine Lim.ite ?_ ?_ | refine Lim.bind ?_ (fun _ => ?_))))
theorem impl_unlike.F_eq (l0 : List Int) : impl_unlike.F l0 = (impl_unlike.L0 l0 l0 (l0.length : Int) 0) :=
 Lim.unique (impl_unlike.F_lim l0) (by
  unfold impl_unlike.f
  repeat' (first | (with_reducible first | exact Lim.const _ | exact impl_unlike.L0_lim _ _ _ _ | refine Lim.ite ?_ ?_ | refine Lim.bind ?_ (fun _ => ?_))))

end Go.Proofs.Ytofjndbpndpjjaa.Fn
