/- The machine's side and plain lemmas for FnDotsTurned: texts of this session, merged by its program (part 0). -/
import Derived.Test.YtadhfbchilaklaaVFnDotsTurned
import Derived.Test.YtadhfbchilaklaaProg
import Derived.Below
import Derived.Deep.Draws
import Derived.Deep.AppendLies
import Derived.Maps.AppendAt
import Derived.OwnWalk
import Derived.Laws.BytesArg
import Derived.Laws.MakeOwn
import Derived.Laws.OwnMore
import Derived.Deep.OwnRows
import Derived.Tactics
import Derived.Lib.ConvBytes
import Derived.Laws.Slices
import Derived.WalkKit
import Derived.KernelRfl
import Derived.RowKit3
import Derived.Deep.LoopGhost
import Derived.Deep.QuietTactic
import Derived.BigQuiet
import Derived.WideLaws
import Derived.Deep.DeepCutAuto
import Derived.Deep.CutBlock
import Derived.Deep.RegionHeld3
import Derived.Laws.Rows
import Derived.Lib.AppendStr
import Derived.ArgAppend
import Derived.Laws.IdiomCopy
import Derived.OrdersHeld
import Derived.Laws.BitsLemmas
import Derived.RowKit
namespace Go.Proofs.Ytadhfbchilaklaa.Fn
open Go.RowKit Go.Proofs.YtadhfbchilaklaaW.PrintWords Go.Proofs.YtadhfbchilaklaaW.PrintLast

/-- What a function with rounds comes to; none where it comes to nothing. -/
noncomputable def lim {α : Type} (g : Nat → Option α) : Option α := open Classical in if h : ∃ k r, g k = some r then g (Classical.choose h) else none
/-- g gives more with more rounds, and comes to a. -/
structure Lim {α : Type} (g : Nat → Option α) (a : Option α) : Prop where
  mono : ∀ k, LeO (g k) (g (k + 1))
  comes : ∀ r, a = some r ↔ ∃ k, g k = some r
theorem lim_some {α : Type} {g : Nat → Option α} (hg : ∀ k, LeO (g k) (g (k + 1))) (r : α) : lim g = some r ↔ ∃ k, g k = some r := by
  unfold lim
  constructor
  · intro h
    split at h
    · exact ⟨_, h⟩
    · cases h
  · rintro ⟨k, hk⟩
    have hx : ∃ k r, g k = some r := ⟨k, r, hk⟩
    rw [dif_pos hx]
    obtain ⟨r', hr'⟩ := Classical.choose_spec hx
    have h1 := at_rounds hg (Nat.le_max_left k (Classical.choose hx)) hk
    have h2 := at_rounds hg (Nat.le_max_right k (Classical.choose hx)) hr'
    rw [h1] at h2
    rw [hr', h2]
theorem Lim.of {α : Type} {g : Nat → Option α} (hg : ∀ k, LeO (g k) (g (k + 1))) : Lim g (lim g) := ⟨hg, lim_some hg⟩
theorem Lim.unique {α : Type} {g : Nat → Option α} {a b : Option α} (ha : Lim g a) (hb : Lim g b) : a = b := by
  have h : ∀ r, a = some r ↔ b = some r := fun r => (ha.comes r).trans (hb.comes r).symm
  cases a with
  | none =>
    cases b with
    | none => rfl
    | some r => exact absurd ((h r).2 rfl) (by simp)
  | some r => exact ((h r).1 rfl).symm
theorem Lim.const {α : Type} (a : Option α) : Lim (fun _ => a) a := ⟨fun _ => LeO.refl _, fun _ => ⟨fun h => ⟨0, h⟩, fun ⟨_, h⟩ => h⟩⟩
theorem Lim.ite {α : Type} {c : Prop} [Decidable c] {g f : Nat → Option α} {a b : Option α} (hg : Lim g a) (hf : Lim f b) : Lim (fun k => if c then g k else f k) (if c then a else b) := by
  by_cases h : c
  · simp only [if_pos h]
    exact hg
  · simp only [if_neg h]
    exact hf
theorem Lim.bind {α β : Type} {g : Nat → Option α} {f : Nat → α → Option β} {a : Option α} {b : α → Option β} (hg : Lim g a) (hf : ∀ x, Lim (fun k => f k x) (b x)) : Lim (fun k => (g k).bind (f k)) (a.bind b) := by
  refine ⟨fun k => LeO.bind (hg.mono k) (fun x => (hf x).mono k), fun r => ⟨fun h => ?_, fun ⟨k, h⟩ => ?_⟩⟩
  · obtain ⟨x, hx, hb⟩ := Option.bind_eq_some_iff.1 h
    obtain ⟨k, hk⟩ := (hg.comes x).1 hx
    obtain ⟨k', hk'⟩ := ((hf x).comes r).1 hb
    refine ⟨max k k', Option.bind_eq_some_iff.2 ⟨x, at_rounds hg.mono (Nat.le_max_left _ _) hk, ?_⟩⟩
    exact at_rounds (g := fun k => f k x) (hf x).mono (Nat.le_max_right _ _) hk'
  · obtain ⟨x, hx, hb⟩ := Option.bind_eq_some_iff.1 h
    exact Option.bind_eq_some_iff.2 ⟨x, (hg.comes x).2 ⟨k, hx⟩, ((hf x).comes r).2 ⟨k, hb⟩⟩
/-- One round of a loop: what stands behind it comes to the same. -/
theorem Lim.step {α : Type} {g f : Nat → Option α} {a b : Option α} (ha : Lim g a) (hs : ∀ k, g (k + 1) = f k) (hf : Lim f b) : a = b := by
  refine Lim.unique (g := f) ⟨hf.mono, fun r => (ha.comes r).trans ⟨fun ⟨k, h⟩ => ⟨k, ?_⟩, fun ⟨k, h⟩ => ⟨k + 1, (hs k).trans h⟩⟩⟩ hf
  rw [← hs]
  exact ha.mono k r h
theorem Lim.rounds {α : Type} {g : Nat → Option α} {a : Option α} {r : α} (h : Lim g a) (e : a = some r) : ∃ k, g k = some r := (h.comes r).1 e

/-! ### loops over a list -/
theorem wrap_in {n : Int} (h0 : -9223372036854775808 ≤ n) (h1 : n ≤ 9223372036854775807) : wrap64 n = n := by
  unfold wrap64
  omega
theorem rd_mid (pre : List Int) (x : Int) (suf : List Int) : rd (pre ++ x :: suf) (pre.length : Int) = x := by
  unfold rd
  simp
theorem rd_nat (l : List Int) (i : Nat) (h : i < l.length) : rd l (i : Int) = l[i] := by
  unfold rd
  simp [List.getD_eq_getElem?_getD, List.getElem?_eq_getElem h]
theorem range_step {α : Type} {pre : List Int} {x : Int} {suf : List Int} {b n1 n2 e : α} : (if (pre.length : Int) < ((pre ++ x :: suf).length : Int) then (if 0 ≤ (pre.length : Int) then (if (pre.length : Int) < ((pre ++ x :: suf).length : Int) then b else n1) else n2) else e) = b := by
  have h : (pre.length : Int) < ((pre ++ x :: suf).length : Int) := by rw [List.length_append, List.length_cons]; omega
  rw [if_pos h, if_pos (by omega), if_pos h]
theorem range_end {α : Type} {pre : List Int} {b e : α} : (if (pre.length : Int) < ((pre ++ []).length : Int) then b else e) = e := by
  rw [if_neg (by simp)]
theorem wrap_mid {pre : List Int} {x : Int} {suf : List Int} (h : (pre ++ x :: suf).length < 4611686018427387904) : wrap64 ((pre.length : Int) + 1) = ((pre ++ [x]).length : Int) := by
  have h1 : pre.length + 1 ≤ (pre ++ x :: suf).length := by rw [List.length_append, List.length_cons]; omega
  rw [wrap_in (by omega) (by omega)]
  simp
theorem app_mid (pre : List Int) (x : Int) (suf : List Int) : pre ++ x :: suf = (pre ++ [x]) ++ suf := by simp
/-- What is held up to here is nothing; from here on it is S'. -/
theorem weak_ {P : Program} {md : Region.Mode} {ops : Array Oper} {Q : Exit → Act → World → Prop} {S' : World → Prop} {ds : List Nat} : ∀ {fuel : Nat} {l : Array Bool} {a : Act} {w : World}, wpAnyLast P md ops Q S' ds fuel l a w → wpAnyLast P md ops Q (fun _ => True) ds fuel l a w
  | 0, _, _, _, h => h
  | _ + 1, _, _, _, h => ⟨h.1, fun i hi => wpOp_mono (fun _ _ h' => ⟨fun _ _ => trivial, weak_ h'.2⟩) (h.2 i hi)⟩
/-! #### steps of the walk in short: what is pending between two events (values drawn, boxes made) is told by default -/
section
variable {α : Type} {d : Kd α} {e base : Nat} {ok : Nat → Prop} {v : Value} {xs : List α} {w0 w w1 w2 : World}
theorem upR (h : Aside0 (Kd.R d e w base ok v xs)) (hb : Below w1.heap.size w1 w2) (hm : Below w.heap.size w w1 := by (with_reducible repeat (first | exact Below.refl _ _ | apply below_alloc | apply pw_below_drewN | apply below_drew1))) : Aside0 (Kd.R d e w2 base ok v xs) := ⟨Kd.R_below h.out (hm.trans (hb.mono hm.size))⟩
theorem upS (h : Aside0 (Kd.S d e w base ok v xs)) (hb : Below w1.heap.size w1 w2) (hm : Below w.heap.size w w1 := by (with_reducible repeat (first | exact Below.refl _ _ | apply below_alloc | apply pw_below_drewN | apply below_drew1))) : Aside0 (Kd.S d e w2 base ok v xs) := ⟨Kd.S_below h.out (hm.trans (hb.mono hm.size))⟩
theorem upC {A : Option Addr} {n : Nat} (h : Aside0 (Kd.C d w A n xs)) (hb : Below w1.heap.size w1 w2) (hm : Below w.heap.size w w1 := by (with_reducible repeat (first | exact Below.refl _ _ | apply below_alloc | apply pw_below_drewN | apply below_drew1))) : Aside0 (Kd.C d w2 A n xs) := ⟨Kd.C_below h.out (hm.trans (hb.mono hm.size))⟩
theorem atC {A : Option Addr} {n : Nat} (h : Aside0 (Kd.C d w A n xs)) (hm : Below w.heap.size w w1 := by (with_reducible repeat (first | exact Below.refl _ _ | apply below_alloc | apply pw_below_drewN | apply below_drew1))) : Kd.C d w1 A n xs := Kd.C_below h.out hm
theorem atRC {A : Option Addr} {n c : Nat} (h : Aside0 (Kd.R d e w base ok (.slice A n c) xs)) (hm : Below w.heap.size w w1 := by (with_reducible repeat (first | exact Below.refl _ _ | apply below_alloc | apply pw_below_drewN | apply below_drew1))) : Kd.C d w1 A xs.length xs := Kd.C_below (Kd.R_reads' h.out).2.2 hm
theorem atSC {A : Option Addr} {n c : Nat} (h : Aside0 (Kd.S d e w base ok (.slice A n c) xs)) (hm : Below w.heap.size w w1 := by (with_reducible repeat (first | exact Below.refl _ _ | apply below_alloc | apply pw_below_drewN | apply below_drew1))) : Kd.C d w1 A xs.length xs := Kd.C_below (Kd.S_reads' h.out).2.2 hm
theorem upB (h : Aside0 (Below w0.heap.size w0 w)) (hb : Below w1.heap.size w1 w2) (hm : Below w.heap.size w w1 := by (with_reducible repeat (first | exact Below.refl _ _ | apply below_alloc | apply pw_below_drewN | apply below_drew1))) : Aside0 (Below w0.heap.size w0 w2) := ⟨below_step (below_step h.out hm) hb⟩
theorem atB (h : Aside0 (Below w0.heap.size w0 w)) (hm : Below w.heap.size w w1 := by (with_reducible repeat (first | exact Below.refl _ _ | apply below_alloc | apply pw_below_drewN | apply below_drew1))) : Below w0.heap.size w0 w1 := below_step h.out hm
theorem lowR (h : Kd.R d e w2 w1.heap.size ok v xs) (hB : Aside0 (Below w0.heap.size w0 w)) (hm : Below w.heap.size w w1 := by (with_reducible repeat (first | exact Below.refl _ _ | apply below_alloc | apply pw_below_drewN | apply below_drew1))) : Aside0 (Kd.R d e w2 w0.heap.size ok v xs) := ⟨Kd.R_lower h (below_size (below_step hB.out hm))⟩
theorem lowS (h : Kd.S d e w2 w1.heap.size ok v xs) (hB : Aside0 (Below w0.heap.size w0 w)) (hm : Below w.heap.size w w1 := by (with_reducible repeat (first | exact Below.refl _ _ | apply below_alloc | apply pw_below_drewN | apply below_drew1))) : Aside0 (Kd.S d e w2 w0.heap.size ok v xs) := ⟨Kd.S_lower h (below_size (below_step hB.out hm))⟩
theorem upK {g : Nat} (hK : Aside0 (KeepBut w0 w g none)) (hk : KeepBut w1 w2 g none) (hm : Below w.heap.size w w1 := by (with_reducible repeat (first | exact Below.refl _ _ | apply below_alloc | apply pw_below_drewN | apply below_drew1))) : Aside0 (KeepBut w0 w2 g none) := ⟨(hK.out.trans (KeepBut.of_below hm g none) (.inl rfl)).trans hk (.inl rfl)⟩
theorem upKB {g : Nat} (hK : Aside0 (KeepBut w0 w g none)) (hb : Below w1.heap.size w1 w2) (hm : Below w.heap.size w w1 := by (with_reducible repeat (first | exact Below.refl _ _ | apply below_alloc | apply pw_below_drewN | apply below_drew1))) : Aside0 (KeepBut w0 w2 g none) := ⟨(hK.out.trans (KeepBut.of_below hm g none) (.inl rfl)).trans (KeepBut.of_below hb g none) (.inl rfl)⟩
theorem lowKR {g : Nat} (h : Kd.R d e w2 w1.heap.size ok v xs) (hK : Aside0 (KeepBut w0 w g none)) (hm : Below w.heap.size w w1 := by (with_reducible repeat (first | exact Below.refl _ _ | apply below_alloc | apply pw_below_drewN | apply below_drew1))) : Aside0 (Kd.R d e w2 w0.heap.size ok v xs) := ⟨Kd.R_lower h (keep_size (hK.out.trans (KeepBut.of_below hm g none) (.inl rfl)))⟩
theorem lowKS {g : Nat} (h : Kd.S d e w2 w1.heap.size ok v xs) (hK : Aside0 (KeepBut w0 w g none)) (hm : Below w.heap.size w w1 := by (with_reducible repeat (first | exact Below.refl _ _ | apply below_alloc | apply pw_below_drewN | apply below_drew1))) : Aside0 (Kd.S d e w2 w0.heap.size ok v xs) := ⟨Kd.S_lower h (keep_size (hK.out.trans (KeepBut.of_below hm g none) (.inl rfl)))⟩
theorem szK {g : Nat} (hK : Aside0 (KeepBut w0 w g none)) (hm : Below w.heap.size w w1 := by (with_reducible repeat (first | exact Below.refl _ _ | apply below_alloc | apply pw_below_drewN | apply below_drew1))) : w0.heap.size ≤ w1.heap.size := keep_size (hK.out.trans (KeepBut.of_below hm g none) (.inl rfl))
theorem szB (hB : Aside0 (Below w0.heap.size w0 w)) (hm : Below w.heap.size w w1 := by (with_reducible repeat (first | exact Below.refl _ _ | apply below_alloc | apply pw_below_drewN | apply below_drew1))) : w0.heap.size ≤ w1.heap.size := below_size (below_step hB.out hm)
theorem ltR (h : Aside0 (Kd.R d e w base ok v xs)) (hm : Below w.heap.size w w1 := by (with_reducible repeat (first | exact Below.refl _ _ | apply below_alloc | apply pw_below_drewN | apply below_drew1))) : ∀ k, v.ownBlock = some k → k < w1.heap.size := Kd.R_lt (Kd.R_below h.out hm)
theorem ltS (h : Aside0 (Kd.S d e w base ok v xs)) (hm : Below w.heap.size w w1 := by (with_reducible repeat (first | exact Below.refl _ _ | apply below_alloc | apply pw_below_drewN | apply below_drew1))) : ∀ k, v.ownBlock = some k → k < w1.heap.size := Kd.S_lt (Kd.S_below h.out hm)
theorem eldRR {β : Type} {d' : Kd β} {e' : Nat} {ok' : Nat → Prop} {u : Value} {ys : List β} (h : Aside0 (Kd.R d e w base ok v xs)) (h2 : Kd.R d' e' w2 w1.heap.size ok' u ys) (hb : Below w1.heap.size w1 w2) (hm : Below w.heap.size w w1 := by (with_reducible repeat (first | exact Below.refl _ _ | apply below_alloc | apply pw_below_drewN | apply below_drew1))) : Aside0 (Kd.R d e w2 base (fun k => ok k ∧ some k ≠ u.ownBlock) v xs) := ⟨Kd.R_elder' (Kd.R_below h.out hm) (Kd.R_base h2) hb⟩
theorem eldSR {β : Type} {d' : Kd β} {e' : Nat} {ok' : Nat → Prop} {u : Value} {ys : List β} (h : Aside0 (Kd.S d e w base ok v xs)) (h2 : Kd.R d' e' w2 w1.heap.size ok' u ys) (hb : Below w1.heap.size w1 w2) (hm : Below w.heap.size w w1 := by (with_reducible repeat (first | exact Below.refl _ _ | apply below_alloc | apply pw_below_drewN | apply below_drew1))) : Aside0 (Kd.S d e w2 base (fun k => ok k ∧ some k ≠ u.ownBlock) v xs) := ⟨Kd.S_elder' (Kd.S_below h.out hm) (Kd.R_base h2) hb⟩
theorem atR (h : Aside0 (Kd.R d e w base ok v xs)) (hm : Below w.heap.size w w1 := by (with_reducible repeat (first | exact Below.refl _ _ | apply below_alloc | apply pw_below_drewN | apply below_drew1))) : Kd.R d e w1 base ok v xs := Kd.R_below h.out hm
theorem atS (h : Aside0 (Kd.S d e w base ok v xs)) (hm : Below w.heap.size w w1 := by (with_reducible repeat (first | exact Below.refl _ _ | apply below_alloc | apply pw_below_drewN | apply below_drew1))) : Kd.S d e w1 base ok v xs := Kd.S_below h.out hm
theorem atK {g : Nat} (hK : Aside0 (KeepBut w0 w g none)) (hm : Below w.heap.size w w1 := by (with_reducible repeat (first | exact Below.refl _ _ | apply below_alloc | apply pw_below_drewN | apply below_drew1))) : KeepBut w0 w1 g none := hK.out.trans (KeepBut.of_below hm g none) (.inl rfl)
end
/-- A literal of rows, in a region of its own world. -/
theorem N_lit0 {P : Program} {ops : Array Oper} {rest : List Oper} {o : Oper} {a : Act} {Q : Exit → Act → World → Prop} {α : Type} (d : Kd α) {W : World} (e : Nat) (hg : o.guard = none) {N' : Tmp} (hd : o.dst = some N') {xs : List α} {inner : List Value} {ok okp : Nat → Prop}
    (hr : Go.Sem.run P (execOp a.eval o) W = .ok (.value (.slice (some { block := W.heap.size, off := 0 }) xs.length xs.length)) (W.alloc (.cells inner.toArray e))) (hp : Reps (d.FK W okp) d.sz xs inner) (hk : ∀ k : Nat, okp k → ok k) (h0 : ok W.heap.size) (hl : xs.length ≤ 9223372036854775807)
    (h : ∀ (v1 : Value) (w1 : World), d.N e w1 W.heap.size ok v1 xs → Below W.heap.size W w1 → W.grownBy w1 none → (∃ b, v1.ownBlock = some b ∧ W.heap.size ≤ b) → wpList P ops Q rest (a.put o.dst v1) w1) : wpList P ops Q (o :: rest) a W :=
  Kd.N_lit d (w0 := W) W.heap.size e hg hd hr hp hk h0 (Below.refl _ _) (Nat.le_refl _) hl h
theorem repsI {W : World} {b : Nat} {ok : Nat → Prop} : ∀ xs : List Int, Reps (Kd.M (Kd.int .i64) W b ok) 1 xs (xs.map (Value.int .i64))
  | [] => Reps.none _ _
  | _ :: xs => Reps.one rfl (repsI xs)
theorem eqd {β : Sort _} {a b : β} (h : a = b := by first | rfl | (simp; done) | (simp [*]; done)) : a = b := h
theorem eqr {β : Sort _} {a b : β} (h : a = b := by first | rfl | (simp [errW_none, errW_some] <;> rfl) | (simp [*, errW_none, errW_some] <;> rfl)) : a = b := h
theorem leD {a b : Nat} (h : a ≤ b := by first | omega | exact Nat.le_refl _) : a ≤ b := h
theorem ofd {p : Prop} [Decidable p] (h : decide p = true := by first | (with_reducible assumption) | assumption) : p := of_decide_eq_true h
theorem goesA {P : Program} {ops : Array Oper} {Q : Exit → Act → World → Prop} {rest : List Oper} {oi : Oper} {a : Act} {w : World} {f : FuncId} {fn : Func} {opers : Array Operand} {ts : Array TypeId} (N : Option Tmp) (hf : P.funcs[f]? = some fn) (args : Array Value) (h : Calls P f args w fun e w' => ∃ v, e = .returned v ∧ wpList P ops Q rest (a.put N v) w') (hd : oi.dst = N := by exact rfl) (hg : oi.guard = none := by exact rfl) (hname : (fn.name == "runtime.NumGoroutine") = false := by kernel_rfl) (hb : fn.body.isSome = true := by exact rfl) (hop : oi.op = .call { callee := .value (.func f), args := opers, argTypes := ts } := by exact rfl) (hargs : opers.map a.eval = args := by ((try simp only [List.map_toArray, List.map_cons, List.map_nil]); first | done | rfl | (simp only [List.length_drop, List.length_take]; rfl))) : wpList P ops Q (oi :: rest) a w := goesL_ N hd hg hf hname hb args hop hargs h
/-! #### a number put into a list: 'append(append(append([]int{}, out[:at]...), k), out[at:]...)' -/
def insAt.f (out : List Int) (a k : Int) : Option (List Int) := if 0 ≤ a ∧ a ≤ (out.length : Int) ∧ out.length ≤ 1000000 then some (out.take a.toNat ++ [k] ++ out.drop a.toNat) else none
theorem insAt_parts {out r : List Int} {a k : Int} (h : (if 0 ≤ a ∧ a ≤ (out.length : Int) ∧ out.length ≤ 1000000 then some (out.take a.toNat ++ [k] ++ out.drop a.toNat) else none) = some r) : 0 ≤ a ∧ a ≤ (out.length : Int) ∧ out.length ≤ 1000000 ∧ out.take a.toNat ++ [k] ++ out.drop a.toNat = r := by
  by_cases hc : 0 ≤ a ∧ a ≤ (out.length : Int) ∧ out.length ≤ 1000000
  · rw [if_pos hc] at h
    exact ⟨hc.1, hc.2.1, hc.2.2, Option.some.inj h⟩
  · rw [if_neg hc] at h
    cases h
theorem C_box {w : World} {b e : Nat} {k : Int} (h : w.heap[b]? = some (.cells #[.int .i64 k] e (0, 0))) : Kd.C (Kd.int .i64) w (some ⟨b, 0, none⟩) 1 [k] := by
  refine Kd.C_of_reads (d := (0 : Int)) (h1 := fun _ => rfl) ⟨rfl, by omega, fun _ => ⟨_, rfl, fun j hj => ?_⟩⟩
  have : j = 0 := by omega
  subst this
  exact (blk_cell h 0).trans rfl
theorem heap_lt_alloc (w : World) (o : Obj) : w.heap.size < (w.alloc o).heap.size := by
  have h : (w.alloc o).heap.size = w.heap.size + 1 := Array.size_push _
  omega
theorem lt_of_cells {w : World} {k : Nat} {o : Obj} (h : w.heap[k]? = some o) : k < w.heap.size := (Array.getElem?_eq_some_iff.1 h).1
theorem new_ne {α : Type} {d : Kd α} {e : Nat} {w : World} {base : Nat} {ok : Nat → Prop} {v : Value} {xs : List α} (h : d.R e w base ok v xs) : some w.heap.size ≠ v.ownBlock := fun he => by
  obtain ⟨inner, ho⟩ := Kd.R_own h
  have := own_lt ho w.heap.size he.symm
  omega
theorem elder_ne {v : Value} {k n : Nat} (h : ∃ b, v.ownBlock = some b ∧ n ≤ b) (hk : k < n) : some k ≠ v.ownBlock := fun he => by
  obtain ⟨b, hb, hn⟩ := h
  rw [hb] at he
  injection he with he
  omega
end Go.Proofs.Ytadhfbchilaklaa.Fn
namespace Go.Proofs.Ytadhfbchilaklaa.Fn
open Go.RowKit Go.Proofs.YtadhfbchilaklaaW.PrintWords Go.Proofs.YtadhfbchilaklaaW.PrintLast Go.Proofs.YtadhfbchilaklaaW.PrintMore
attribute [local go_sem] max2_int min2_int max_two min_two max_three min_three max_four min_four   -- for this text's walks alone
set_option linter.unusedVariables false
set_option linter.unusedSimpArgs false



def errW : Option Int → Value
  | none => .nilIface
  | some c => .iface 0 (.int .i64 c)
theorem errW_none : errW none = .nilIface := rfl
theorem errW_some (c : Int) : errW (some c) = .iface 0 (.int .i64 c) := rfl

theorem info3 : (Try.prog.info? 3).map (fun i => (i.zero, i.size, i.bytes)) = some (some (.int .i64 0), 1, 8) := by kernel_rfl
theorem info4 : (Try.prog.info? 4).map (fun i => (i.zero, i.size, i.bytes)) = some (some (.bool false), 1, 1) := by kernel_rfl
theorem info24 : (Try.prog.info? 24).map (fun i => (i.zero, i.size, i.bytes)) = some (some (.slice none 0 0), 1, 24) := by kernel_rfl
theorem info33 : (Try.prog.info? 33).map (fun i => (i.zero, i.size, i.bytes)) = some (some (.slice none 0 0), 1, 24) := by kernel_rfl
-- the values' own types
def rd_L2 (xs : List (List Int)) (i : Int) : (List Int) := xs.getD i.toNat ([] : List Int)
theorem at_L2 {w : World} {A : Option Addr} {n : Nat} {xs : List (List Int)} (h : Kd.C (Kd.slice 3 (Kd.int .i64)) w A n xs) (i : Int) (h0 : 0 ≤ i) (h1 : i < n) : ∃ ad A0 c0, A = some ad ∧ w.cell? (ad.add i.toNat) = some (.slice A0 (rd_L2 xs i).length c0) ∧ (rd_L2 xs i).length ≤ c0 ∧ (Kd.int .i64).C w A0 (rd_L2 xs i).length (rd_L2 xs i) := by
  obtain ⟨ad, c, e, _, hK, hc0⟩ := Kd.C_get h ([] : List Int) i h0 h1
  have hc : ∀ j u, c[j]? = some u → w.cell? (ad.add (i.toNat * 1 + j)) = some u := hc0
  obtain ⟨A0, c0, rfl, l0, g0⟩ := hK
  exact ⟨ad, A0, c0, e, by have hq := hc 0 _ rfl; rwa [Nat.mul_one, Nat.add_zero] at hq, l0, g0⟩

def rd_L4 (xs : List (List (List Int))) (i : Int) : (List (List Int)) := xs.getD i.toNat ([] : List (List Int))
theorem at_L4 {w : World} {A : Option Addr} {n : Nat} {xs : List (List (List Int))} (h : Kd.C (Kd.slice 24 (Kd.slice 3 (Kd.int .i64))) w A n xs) (i : Int) (h0 : 0 ≤ i) (h1 : i < n) : ∃ ad A0 c0, A = some ad ∧ w.cell? (ad.add i.toNat) = some (.slice A0 (rd_L4 xs i).length c0) ∧ (rd_L4 xs i).length ≤ c0 ∧ (Kd.slice 3 (Kd.int .i64)).C w A0 (rd_L4 xs i).length (rd_L4 xs i) := by
  obtain ⟨ad, c, e, _, hK, hc0⟩ := Kd.C_get h ([] : List (List Int)) i h0 h1
  have hc : ∀ j u, c[j]? = some u → w.cell? (ad.add (i.toNat * 1 + j)) = some u := hc0
  obtain ⟨A0, c0, rfl, l0, g0⟩ := hK
  exact ⟨ad, A0, c0, e, by have hq := hc 0 _ rfl; rwa [Nat.mul_one, Nat.add_zero] at hq, l0, g0⟩

end Go.Proofs.Ytadhfbchilaklaa.Fn
namespace Go.Proofs.Ytadhfbchilaklaa.Fn
open Go.RowKit Go.Proofs.YtadhfbchilaklaaW.PrintWords Go.Proofs.YtadhfbchilaklaaW.PrintLast Go.Proofs.YtadhfbchilaklaaW.PrintMore
attribute [local go_sem] max2_int min2_int max_two min_two max_three min_three max_four min_four   -- for this text's walks alone
set_option linter.unusedVariables false
set_option linter.unusedSimpArgs false

/-- A state of type 83 at block g of W; what its slices lead to came in by w0. -/
def IsS83 (w0 W : World) (g : Nat) (f0 : List Int) (f1 : Int) (f2 : Int) : Prop := ∃ A0 c0, W.heap[g]? = some (.cells #[.slice A0 f0.length c0, .int .i64 f1, .int .u64 f2] 83 (0, 0)) ∧ w0.heap.size ≤ g ∧ Kd.C (Kd.int .u8) w0 A0 f0.length f0
theorem IsS83.grown {w0 W : World} {g : Nat} {f0 : List Int} {f1 : Int} {f2 : Int} {W1 : World} {row : Option Nat} (h : IsS83 w0 W g f0 f1 f2) (hw : W.grownBy W1 row) (hne : some g ≠ row) : IsS83 w0 W1 g f0 f1 f2 := by
  obtain ⟨A0, c0, hb, hg, hr0⟩ := h
  exact ⟨A0, c0, blk_grown hb hw hne, hg, hr0⟩
theorem IsS83.own_neN {w0 W : World} {g : Nat} {f0 : List Int} {f1 : Int} {f2 : Int} {α : Type} {d : Kd α} {e : Nat} {base : Nat} {ok : Nat → Prop} {v : Value} {xs : List α} (h : IsS83 w0 W g f0 f1 f2) (ho : Kd.N d e W base ok v xs) (ht : e ≠ 83) : some g ≠ v.ownBlock := by
  obtain ⟨A0, c0, hb, hg, hr0⟩ := h
  exact Kd.N_ne ho hb ht
theorem IsS83.fresh {w0 W : World} {g : Nat} {f0 : List Int} {f1 : Int} {f2 : Int} (h : IsS83 w0 W g f0 f1 f2) : ∀ k, W.heap.size ≤ k → k ≠ g := by
  obtain ⟨A0, c0, hb, hg, hr0⟩ := h
  exact Kd.freshB hb
theorem IsS83.kept {w0 W : World} {g : Nat} {f0 : List Int} {f1 : Int} {f2 : Int} {W1 : World} {S : Nat → Prop} (h : IsS83 w0 W g f0 f1 f2) (hk : Kept W W1 S) (hne : ¬ S g) : IsS83 w0 W1 g f0 f1 f2 := by
  obtain ⟨A0, c0, hb, hg, hr0⟩ := h
  exact ⟨A0, c0, blk_kept hb hk hne, hg, hr0⟩
theorem IsS83.below {w0 W : World} {g : Nat} {f0 : List Int} {f1 : Int} {f2 : Int} {W1 : World} (h : IsS83 w0 W g f0 f1 f2) (hw : Below W.heap.size W W1) : IsS83 w0 W1 g f0 f1 f2 := h.grown (grown_of_below hw none) (by simp)
theorem IsS83.up {w0 W : World} {g : Nat} {f0 : List Int} {f1 : Int} {f2 : Int} {W1 W2 : World} (h : Aside0 (IsS83 w0 W g f0 f1 f2)) (hb : Below W1.heap.size W1 W2) (hm : Below W.heap.size W W1 := by (with_reducible repeat (first | exact Below.refl _ _ | apply below_alloc | apply pw_below_drewN | apply below_drew1))) : Aside0 (IsS83 w0 W2 g f0 f1 f2) := ⟨IsS83.below h.out (hm.trans (hb.mono hm.size))⟩
theorem IsS83.at {w0 W : World} {g : Nat} {f0 : List Int} {f1 : Int} {f2 : Int} {W1 : World} (h : Aside0 (IsS83 w0 W g f0 f1 f2)) (hm : Below W.heap.size W W1 := by (with_reducible repeat (first | exact Below.refl _ _ | apply below_alloc | apply pw_below_drewN | apply below_drew1))) : IsS83 w0 W1 g f0 f1 f2 := IsS83.below h.out hm
theorem IsS83.alloc {w0 W : World} {g : Nat} {f0 : List Int} {f1 : Int} {f2 : Int} (h : IsS83 w0 W g f0 f1 f2) (o : Obj) : IsS83 w0 (W.alloc o) g f0 f1 f2 := h.below (below_alloc (Below.refl _ _) o)
theorem IsS83.drewN {w0 W : World} {g : Nat} {f0 : List Int} {f1 : Int} {f2 : Int} (h : IsS83 w0 W g f0 f1 f2) (m : Nat) : IsS83 w0 (W.drewN m) g f0 f1 f2 := h
theorem IsS83.drew {w0 W : World} {g : Nat} {f0 : List Int} {f1 : Int} {f2 : Int} (h : IsS83 w0 W g f0 f1 f2) : IsS83 w0 W.drew g f0 f1 f2 := h
theorem IsS83.at_ {w0 W : World} {g : Nat} {f0 : List Int} {f1 : Int} {f2 : Int} {w' : World} {m : Nat} (hq : W.drewN m = w') (h : IsS83 w0 W g f0 f1 f2) : IsS83 w0 w' g f0 f1 f2 := by subst hq; exact IsS83.drewN h m
theorem IsS83.apart {w0 W : World} {g : Nat} {f0 : List Int} {f1 : Int} {f2 : Int} {α : Type} {d : Kd α} {e : Nat} {base : Nat} {ok : Nat → Prop} {v : Value} {xs : List α} (h : IsS83 w0 W g f0 f1 f2) (ho : d.R e W base ok v xs) (ht : ∀ q, q ∈ e :: d.E → q ≠ 83) : d.R e W base (fun k => ok k ∧ k ≠ g) v xs := by
  obtain ⟨A0, c0, hb, hg, hr0⟩ := h
  exact Kd.R_types ho hb ht
theorem IsS83.keepR {w0 W : World} {g : Nat} {f0 : List Int} {f1 : Int} {f2 : Int} {α : Type} {d : Kd α} {e : Nat} {base : Nat} {ok : Nat → Prop} {v : Value} {xs : List α} {Wr W1 W2 : World} (hI : Aside0 (IsS83 w0 W g f0 f1 f2)) (ho : Aside0 (Kd.R d e Wr base ok v xs)) (hk : KeepBut W1 W2 g none) (hm : Below W.heap.size W W1 := by (with_reducible repeat (first | exact Below.refl _ _ | apply below_alloc | apply pw_below_drewN | apply below_drew1))) (hn : Below Wr.heap.size Wr W1 := by (with_reducible repeat (first | exact Below.refl _ _ | apply below_alloc | apply pw_below_drewN | apply below_drew1))) (hd : ∀ q, q ∈ e :: d.E → q ≠ 83 := by decide) : Aside0 (Kd.R d e W2 base ok v xs) :=
  ⟨Kd.R_mono (Kd.R_keep (IsS83.apart (IsS83.below hI.out hm) (Kd.R_below ho.out hn) hd) hk (fun _ h => h.2)) (fun _ h => h.1)⟩
theorem IsS83.own_ne {w0 W : World} {g : Nat} {f0 : List Int} {f1 : Int} {f2 : Int} {α : Type} {d : Kd α} {e : Nat} {base : Nat} {ok : Nat → Prop} {v : Value} {xs : List α} (h : IsS83 w0 W g f0 f1 f2) (ho : d.R e W base ok v xs) (ht : e ≠ 83) : some g ≠ v.ownBlock := by
  obtain ⟨A0, c0, hb, hg, hr0⟩ := h
  exact Kd.R_ne ho hb ht
theorem IsS83.apartQ {w0 W : World} {g : Nat} {f0 : List Int} {f1 : Int} {f2 : Int} {α : Type} {d : Kd α} {e : Nat} {base : Nat} {ok : Nat → Prop} {v : Value} {xs : List α} (h : IsS83 w0 W g f0 f1 f2) (ho : d.Q e W base ok v xs) (ht : ∀ q, q ∈ e :: d.E → q ≠ 83) : d.Q e W base (fun k => ok k ∧ k ≠ g) v xs := by
  obtain ⟨A0, c0, hb, hg, hr0⟩ := h
  exact Kd.Q_types ho hb ht
theorem IsS83.own_neQ {w0 W : World} {g : Nat} {f0 : List Int} {f1 : Int} {f2 : Int} {α : Type} {d : Kd α} {e : Nat} {base : Nat} {ok : Nat → Prop} {v : Value} {xs : List α} (h : IsS83 w0 W g f0 f1 f2) (ho : d.Q e W base ok v xs) (ht : e ≠ 83) : some g ≠ v.ownBlock := by
  obtain ⟨A0, c0, hb, hg, hr0⟩ := h
  exact Kd.Q_ne ho hb ht
theorem IsS83.apartS {w0 W : World} {g : Nat} {f0 : List Int} {f1 : Int} {f2 : Int} {α : Type} {d : Kd α} {e : Nat} {base : Nat} {ok : Nat → Prop} {v : Value} {xs : List α} (h : IsS83 w0 W g f0 f1 f2) (ho : d.S e W base ok v xs) (ht : ∀ q, q ∈ e :: d.E → q ≠ 83) : d.S e W base (fun k => ok k ∧ k ≠ g) v xs := by
  obtain ⟨A0, c0, hb, hg, hr0⟩ := h
  exact Kd.S_types ho hb ht
theorem IsS83.keepS {w0 W : World} {g : Nat} {f0 : List Int} {f1 : Int} {f2 : Int} {α : Type} {d : Kd α} {e : Nat} {base : Nat} {ok : Nat → Prop} {v : Value} {xs : List α} {Wr W1 W2 : World} (hI : Aside0 (IsS83 w0 W g f0 f1 f2)) (ho : Aside0 (Kd.S d e Wr base ok v xs)) (hk : KeepBut W1 W2 g none) (hm : Below W.heap.size W W1 := by (with_reducible repeat (first | exact Below.refl _ _ | apply below_alloc | apply pw_below_drewN | apply below_drew1))) (hn : Below Wr.heap.size Wr W1 := by (with_reducible repeat (first | exact Below.refl _ _ | apply below_alloc | apply pw_below_drewN | apply below_drew1))) (hd : ∀ q, q ∈ e :: d.E → q ≠ 83 := by decide) : Aside0 (Kd.S d e W2 base ok v xs) :=
  ⟨Kd.S_mono (Kd.S_keep (IsS83.apartS (IsS83.below hI.out hm) (Kd.S_below ho.out hn) hd) hk (fun _ h => h.2)) (fun _ h => h.1)⟩
theorem IsS83.own_neS {w0 W : World} {g : Nat} {f0 : List Int} {f1 : Int} {f2 : Int} {α : Type} {d : Kd α} {e : Nat} {base : Nat} {ok : Nat → Prop} {v : Value} {xs : List α} (h : IsS83 w0 W g f0 f1 f2) (ho : d.S e W base ok v xs) (ht : e ≠ 83) : some g ≠ v.ownBlock := by
  obtain ⟨A0, c0, hb, hg, hr0⟩ := h
  exact Kd.S_ne ho hb ht
theorem IsS83.lt {w0 W : World} {g : Nat} {f0 : List Int} {f1 : Int} {f2 : Int} (h : IsS83 w0 W g f0 f1 f2) : g < W.heap.size := by
  obtain ⟨A0, c0, hb, hg, hr0⟩ := h
  exact blk_lt hb
theorem IsS83.ge {w0 W : World} {g : Nat} {f0 : List Int} {f1 : Int} {f2 : Int} (h : IsS83 w0 W g f0 f1 f2) : w0.heap.size ≤ g := by
  obtain ⟨A0, c0, hb, hg, hr0⟩ := h
  exact hg
theorem IsS83.ne_blk {w0 W : World} {g : Nat} {f0 : List Int} {f1 : Int} {f2 : Int} {a : Nat} {cs : Array Value} {t : TypeId} {fr : Nat × Nat} (h : IsS83 w0 W g f0 f1 f2) (hb2 : W.heap[a]? = some (.cells cs t fr)) (ht : t ≠ 83) : g ≠ a := by
  obtain ⟨A0, c0, hb, hg, hr0⟩ := h
  rintro rfl
  rw [hb] at hb2
  injection hb2 with hb2
  injection hb2 with _ ht2
  exact ht ht2.symm
theorem IsS83.far {w0 W : World} {g : Nat} {f0 : List Int} {f1 : Int} {f2 : Int} {p : Addr} (h : IsS83 w0 W g f0 f1 f2) (hne : g ≠ p.block) (u : Value) : IsS83 w0 (W.setCell p u) g f0 f1 f2 := by
  obtain ⟨A0, c0, hb, hg, hr0⟩ := h
  exact ⟨A0, c0, blk_far hb hne u, hg, hr0⟩
theorem cellS83_0 {W : World} {g : Nat} {A0 : Option Addr} {c0 : Nat} {f0 : List Int} {f1 : Int} {f2 : Int} (h : W.heap[g]? = some (.cells #[.slice A0 f0.length c0, .int .i64 f1, .int .u64 f2] 83 (0, 0))) : W.cell? ⟨g, 0, none⟩ = some (.slice A0 f0.length c0) := (blk_cell h 0).trans rfl
theorem cellS83_1 {W : World} {g : Nat} {A0 : Option Addr} {c0 : Nat} {f0 : List Int} {f1 : Int} {f2 : Int} (h : W.heap[g]? = some (.cells #[.slice A0 f0.length c0, .int .i64 f1, .int .u64 f2] 83 (0, 0))) : W.cell? ⟨g, 1, none⟩ = some (.int .i64 f1) := (blk_cell h 1).trans rfl
theorem IsS83.set_1 {w0 W : World} {g : Nat} {f0 : List Int} {f1 : Int} {f2 : Int} (h : IsS83 w0 W g f0 f1 f2) (x : Int) : IsS83 w0 (W.setCell ⟨g, 1, none⟩ (.int .i64 x)) g f0 x f2 := by
  obtain ⟨A0, c0, hb, hg, hr0⟩ := h
  exact ⟨A0, c0, by simpa using blk_set hb 1 (.int .i64 x), hg, hr0⟩
theorem cellS83_2 {W : World} {g : Nat} {A0 : Option Addr} {c0 : Nat} {f0 : List Int} {f1 : Int} {f2 : Int} (h : W.heap[g]? = some (.cells #[.slice A0 f0.length c0, .int .i64 f1, .int .u64 f2] 83 (0, 0))) : W.cell? ⟨g, 2, none⟩ = some (.int .u64 f2) := (blk_cell h 2).trans rfl
theorem IsS83.set_2 {w0 W : World} {g : Nat} {f0 : List Int} {f1 : Int} {f2 : Int} (h : IsS83 w0 W g f0 f1 f2) (x : Int) : IsS83 w0 (W.setCell ⟨g, 2, none⟩ (.int .u64 x)) g f0 f1 x := by
  obtain ⟨A0, c0, hb, hg, hr0⟩ := h
  exact ⟨A0, c0, by simpa using blk_set hb 2 (.int .u64 x), hg, hr0⟩
theorem IsS83.new (w0 W : World) (A0 : Option Addr) (c0 : Nat) (f0 : List Int) (f1 : Int) (f2 : Int) (hB : Below w0.heap.size w0 W) (hr0 : Kd.C (Kd.int .u8) w0 A0 f0.length f0) : IsS83 w0 (W.alloc (.cells #[.slice A0 f0.length c0, .int .i64 f1, .int .u64 f2] 83)) W.heap.size f0 f1 f2 := ⟨A0, c0, by simpa using heap_alloc_new W _, hB.size, hr0⟩

/-! ### spec_l1Cur_next: function 251 -/
def spec_l1Cur_next.f (s0_0 : List Int) (s0_1 : Int) (s0_2 : Int) : Option (Int × Int × Int) := if s0_1 < (s0_0.length : Int) then (if 0 ≤ s0_1 then (if (wrap64 (s0_1 + 1)) ≤ (s0_0.length : Int) then (some (wrap64 (rd s0_0 s0_1), wrap64 (s0_1 + 1), IntKind.u64.wrap ((IntKind.u64.wrap ((IntKind.u64.wrap (s0_2 * 6364136223846793005)) + (IntKind.u64.wrap (wrap64 (rd s0_0 s0_1))))) + 1442695040888963407))) else (some (wrap64 (Go.bits .and .u64 ((IntKind.u64.wrap ((IntKind.u64.wrap ((IntKind.u64.wrap (s0_2 * 6364136223846793005)) + (IntKind.u64.wrap (wrap64 (rd s0_0 s0_1))))) + 1442695040888963407)) / 1099511627776) 255), wrap64 (s0_1 + 1), IntKind.u64.wrap ((IntKind.u64.wrap ((IntKind.u64.wrap (s0_2 * 6364136223846793005)) + (IntKind.u64.wrap (wrap64 (rd s0_0 s0_1))))) + 1442695040888963407)))) else (none)) else (if (wrap64 (s0_1 + 1)) ≤ (s0_0.length : Int) then (some (0, wrap64 (s0_1 + 1), IntKind.u64.wrap ((IntKind.u64.wrap (IntKind.u64.wrap (s0_2 * 6364136223846793005))) + 1442695040888963407))) else (some (wrap64 (Go.bits .and .u64 ((IntKind.u64.wrap ((IntKind.u64.wrap (IntKind.u64.wrap (s0_2 * 6364136223846793005))) + 1442695040888963407)) / 1099511627776) 255), wrap64 (s0_1 + 1), IntKind.u64.wrap ((IntKind.u64.wrap (IntKind.u64.wrap (s0_2 * 6364136223846793005))) + 1442695040888963407))))
set_option maxHeartbeats 8000000 in
set_option maxRecDepth 100000 in
theorem spec_l1Cur_next.calls (g : Nat) (s0_0 : List Int) (s0_1 : Int) (s0_2 : Int) (r1 : Int) (r2 : Int) (r3 : Int) (w0 w : World) (hI : IsS83 w0 w g s0_0 s0_1 s0_2) (hB : Below w0.heap.size w0 w) (h : spec_l1Cur_next.f s0_0 s0_1 s0_2 = some (r1, r2, r3)) :
    Calls Try.prog 251 #[.pointer (some ⟨g, 0, none⟩)] w fun e w' => e = .returned (.int .i64 r1) ∧ IsS83 w0 w' g s0_0 r2 r3 ∧ Below w0.heap.size w0 w' ∧ KeepBut w w' g none := by
  have HI0 := Aside0.mk hI
  have HK := Aside0.mk (KeepBut.refl w g none)
  have HL := Aside0.mk hB.size
  clear hI
  have HW0 := Aside0.mk hB.size
  have HB := Aside0.mk hB
  clear hB
  have H : (if s0_1 < (s0_0.length : Int) then (if 0 ≤ s0_1 then (if (wrap64 (s0_1 + 1)) ≤ (s0_0.length : Int) then (some (wrap64 (rd s0_0 s0_1), wrap64 (s0_1 + 1), IntKind.u64.wrap ((IntKind.u64.wrap ((IntKind.u64.wrap (s0_2 * 6364136223846793005)) + (IntKind.u64.wrap (wrap64 (rd s0_0 s0_1))))) + 1442695040888963407))) else (some (wrap64 (Go.bits .and .u64 ((IntKind.u64.wrap ((IntKind.u64.wrap ((IntKind.u64.wrap (s0_2 * 6364136223846793005)) + (IntKind.u64.wrap (wrap64 (rd s0_0 s0_1))))) + 1442695040888963407)) / 1099511627776) 255), wrap64 (s0_1 + 1), IntKind.u64.wrap ((IntKind.u64.wrap ((IntKind.u64.wrap (s0_2 * 6364136223846793005)) + (IntKind.u64.wrap (wrap64 (rd s0_0 s0_1))))) + 1442695040888963407)))) else (none)) else (if (wrap64 (s0_1 + 1)) ≤ (s0_0.length : Int) then (some (0, wrap64 (s0_1 + 1), IntKind.u64.wrap ((IntKind.u64.wrap (IntKind.u64.wrap (s0_2 * 6364136223846793005))) + 1442695040888963407))) else (some (wrap64 (Go.bits .and .u64 ((IntKind.u64.wrap ((IntKind.u64.wrap (IntKind.u64.wrap (s0_2 * 6364136223846793005))) + 1442695040888963407)) / 1099511627776) 255), wrap64 (s0_1 + 1), IntKind.u64.wrap ((IntKind.u64.wrap (IntKind.u64.wrap (s0_2 * 6364136223846793005))) + 1442695040888963407))))) = some (r1, r2, r3) := h
  clear h
  by_cases c2 : s0_1 < (s0_0.length : Int)
  · rw [if_pos c2] at H
    have c2b0 : decide (s0_1 < (s0_0.length : Int)) = true := decide_eq_true c2
    clear c2
    by_cases c3 : 0 ≤ s0_1
    · rw [if_pos c3] at H
      have c3b0 : decide (0 ≤ s0_1) = true := decide_eq_true c3
      clear c3
      by_cases c4 : (wrap64 (s0_1 + 1)) ≤ (s0_0.length : Int)
      · rw [if_pos c4] at H
        have c4b0 : decide ((wrap64 (s0_1 + 1)) ≤ (s0_0.length : Int)) = true := decide_eq_true c4
        clear c4
        simp only [Option.some.injEq, Prod.mk.injEq] at H
        obtain ⟨rfl, rfl, rfl⟩ := H
        obtain ⟨ASz5_0, cSz5_0, HGz5, hgz5, HSz5_0⟩ := HI0.out
        have hcz5_0 := cellS83_0 HGz5
        have hcz5_1 := cellS83_1 HGz5
        have hcz5_2 := cellS83_2 HGz5
        have hfz5_1 := blk_frozen HGz5 1
        have hfz5_2 := blk_frozen HGz5 2
        clear HGz5 hgz5
        have p105 : 0 ≤ (s0_1 : Int) := of_decide_eq_true (by first | (with_reducible assumption) | assumption)
        have q105 : s0_1 < (s0_0.length : Int) := of_decide_eq_true (by first | (with_reducible assumption) | assumption)
        obtain ⟨ad105, e105, hx105_0⟩ := Kd.at_int HSz5_0 s0_1 p105 q105
        cases e105
        replace hx105_0 := pw_cell_below HB.out hx105_0
        replace p105 := eq_true p105
        replace q105 := eq_true q105
        go_enter Try.func251, Try.ntmps251
        go_wp2
        repeat (go_quiet (fail); try go_wp2)
        go_ret
        exact ⟨by first | rfl | (simp [errW_none, errW_some] <;> rfl) | (simp [*, errW_none, errW_some] <;> rfl), by repeat (first | (with_reducible first | exact HI0.out | apply IsS83.alloc | apply IsS83.drewN | apply IsS83.drew | apply IsS83.set_1 | apply IsS83.set_2) | exact HI0.out), by repeat (first | (with_reducible first | exact HB.out | apply below_alloc | apply pw_below_drewN | apply below_drew1 | refine below_set ?_ (IsS83.ge HI0.out)) | exact HB.out), by repeat (first | (with_reducible first | exact HK.out | apply KeepBut.set_ | apply keep_drewN | apply keep_drew | apply keep_alloc) | exact HK.out)⟩
      · rw [if_neg c4] at H
        have c4b0 : decide ((wrap64 (s0_1 + 1)) ≤ (s0_0.length : Int)) = false := decide_eq_false c4
        clear c4
        simp only [Option.some.injEq, Prod.mk.injEq] at H
        obtain ⟨rfl, rfl, rfl⟩ := H
        obtain ⟨ASz6_0, cSz6_0, HGz6, hgz6, HSz6_0⟩ := HI0.out
        have hcz6_0 := cellS83_0 HGz6
        have hcz6_1 := cellS83_1 HGz6
        have hcz6_2 := cellS83_2 HGz6
        have hfz6_1 := blk_frozen HGz6 1
        have hfz6_2 := blk_frozen HGz6 2
        clear HGz6 hgz6
        have p105 : 0 ≤ (s0_1 : Int) := of_decide_eq_true (by first | (with_reducible assumption) | assumption)
        have q105 : s0_1 < (s0_0.length : Int) := of_decide_eq_true (by first | (with_reducible assumption) | assumption)
        obtain ⟨ad105, e105, hx105_0⟩ := Kd.at_int HSz6_0 s0_1 p105 q105
        cases e105
        replace hx105_0 := pw_cell_below HB.out hx105_0
        replace p105 := eq_true p105
        replace q105 := eq_true q105
        go_enter Try.func251, Try.ntmps251
        go_wp2
        repeat (go_quiet (fail); try go_wp2)
        go_ret
        exact ⟨by first | rfl | (simp [errW_none, errW_some] <;> rfl) | (simp [*, errW_none, errW_some] <;> rfl), by repeat (first | (with_reducible first | exact HI0.out | apply IsS83.alloc | apply IsS83.drewN | apply IsS83.drew | apply IsS83.set_1 | apply IsS83.set_2) | exact HI0.out), by repeat (first | (with_reducible first | exact HB.out | apply below_alloc | apply pw_below_drewN | apply below_drew1 | refine below_set ?_ (IsS83.ge HI0.out)) | exact HB.out), by repeat (first | (with_reducible first | exact HK.out | apply KeepBut.set_ | apply keep_drewN | apply keep_drew | apply keep_alloc) | exact HK.out)⟩
    · rw [if_neg c3] at H
      exact absurd H (by simp)
  · rw [if_neg c2] at H
    have c2b0 : decide (s0_1 < (s0_0.length : Int)) = false := decide_eq_false c2
    clear c2
    by_cases c7 : (wrap64 (s0_1 + 1)) ≤ (s0_0.length : Int)
    · rw [if_pos c7] at H
      have c7b0 : decide ((wrap64 (s0_1 + 1)) ≤ (s0_0.length : Int)) = true := decide_eq_true c7
      clear c7
      simp only [Option.some.injEq, Prod.mk.injEq] at H
      obtain ⟨rfl, rfl, rfl⟩ := H
      obtain ⟨ASz8_0, cSz8_0, HGz8, hgz8, HSz8_0⟩ := HI0.out
      have hcz8_0 := cellS83_0 HGz8
      have hcz8_1 := cellS83_1 HGz8
      have hcz8_2 := cellS83_2 HGz8
      have hfz8_1 := blk_frozen HGz8 1
      have hfz8_2 := blk_frozen HGz8 2
      clear HGz8 hgz8
      go_enter Try.func251, Try.ntmps251
      go_wp2
      repeat (go_quiet (fail); try go_wp2)
      go_ret
      exact ⟨by first | rfl | (simp [errW_none, errW_some] <;> rfl) | (simp [*, errW_none, errW_some] <;> rfl), by repeat (first | (with_reducible first | exact HI0.out | apply IsS83.alloc | apply IsS83.drewN | apply IsS83.drew | apply IsS83.set_1 | apply IsS83.set_2) | exact HI0.out), by repeat (first | (with_reducible first | exact HB.out | apply below_alloc | apply pw_below_drewN | apply below_drew1 | refine below_set ?_ (IsS83.ge HI0.out)) | exact HB.out), by repeat (first | (with_reducible first | exact HK.out | apply KeepBut.set_ | apply keep_drewN | apply keep_drew | apply keep_alloc) | exact HK.out)⟩
    · rw [if_neg c7] at H
      have c7b0 : decide ((wrap64 (s0_1 + 1)) ≤ (s0_0.length : Int)) = false := decide_eq_false c7
      clear c7
      simp only [Option.some.injEq, Prod.mk.injEq] at H
      obtain ⟨rfl, rfl, rfl⟩ := H
      obtain ⟨ASz9_0, cSz9_0, HGz9, hgz9, HSz9_0⟩ := HI0.out
      have hcz9_0 := cellS83_0 HGz9
      have hcz9_1 := cellS83_1 HGz9
      have hcz9_2 := cellS83_2 HGz9
      have hfz9_1 := blk_frozen HGz9 1
      have hfz9_2 := blk_frozen HGz9 2
      clear HGz9 hgz9
      go_enter Try.func251, Try.ntmps251
      go_wp2
      repeat (go_quiet (fail); try go_wp2)
      go_ret
      exact ⟨by first | rfl | (simp [errW_none, errW_some] <;> rfl) | (simp [*, errW_none, errW_some] <;> rfl), by repeat (first | (with_reducible first | exact HI0.out | apply IsS83.alloc | apply IsS83.drewN | apply IsS83.drew | apply IsS83.set_1 | apply IsS83.set_2) | exact HI0.out), by repeat (first | (with_reducible first | exact HB.out | apply below_alloc | apply pw_below_drewN | apply below_drew1 | refine below_set ?_ (IsS83.ge HI0.out)) | exact HB.out), by repeat (first | (with_reducible first | exact HK.out | apply KeepBut.set_ | apply keep_drewN | apply keep_drew | apply keep_alloc) | exact HK.out)⟩


end Go.Proofs.Ytadhfbchilaklaa.Fn
namespace Go.Proofs.Ytadhfbchilaklaa.Fn
open Go.RowKit Go.Proofs.YtadhfbchilaklaaW.PrintWords Go.Proofs.YtadhfbchilaklaaW.PrintLast Go.Proofs.YtadhfbchilaklaaW.PrintMore
attribute [local go_sem] max2_int min2_int max_two min_two max_three min_three max_four min_four   -- for this text's walks alone
set_option linter.unusedVariables false
set_option linter.unusedSimpArgs false

/-! ### spec_l1Cur_pick: function 177 -/
def spec_l1Cur_pick.f (s0_0 : List Int) (s0_1 : Int) (s0_2 : Int) (a1 : Int) : Option (Int × Int × Int) := if a1 ≤ 1 then (some (0, s0_1, s0_2)) else ((spec_l1Cur_next.f s0_0 s0_1 s0_2).bind fun bt106 => (if a1 > 200 then ((spec_l1Cur_next.f s0_0 bt106.2.1 bt106.2.2).bind fun bt109 => (if a1 = 0 then (none) else (some (Int.tmod (wrap64 ((wrap64 (bt106.1 * 256)) + bt109.1)) a1, bt109.2.1, bt109.2.2)))) else (if a1 = 0 then (none) else (some (Int.tmod bt106.1 a1, bt106.2.1, bt106.2.2)))))
set_option maxHeartbeats 8000000 in
set_option maxRecDepth 100000 in
theorem spec_l1Cur_pick.calls (g : Nat) (s0_0 : List Int) (s0_1 : Int) (s0_2 : Int) (a1 : Int) (r1 : Int) (r2 : Int) (r3 : Int) (w0 w : World) (hI : IsS83 w0 w g s0_0 s0_1 s0_2) (hB : Below w0.heap.size w0 w) (h : spec_l1Cur_pick.f s0_0 s0_1 s0_2 a1 = some (r1, r2, r3)) :
  Calls Try.prog 177 #[.pointer (some ⟨g, 0, none⟩), .int .i64 a1] w fun e w' => e = .returned (.int .i64 r1) ∧ IsS83 w0 w' g s0_0 r2 r3 ∧ Below w0.heap.size w0 w' ∧ KeepBut w w' g none := by
 have HI0 := Aside0.mk hI
 have HK := Aside0.mk (KeepBut.refl w g none)
 have HL := Aside0.mk hB.size
 clear hI
 have HW0 := Aside0.mk hB.size
 have HB := Aside0.mk hB
 clear hB
 have H := h
 unfold spec_l1Cur_pick.f at H
 clear h
 by_cases c3 : a1 ≤ 1
 ·rw [if_pos c3] at H
  have c3b0 : decide (a1 ≤ 1) = true := decide_eq_true c3
  clear c3
  simp only [Option.some.injEq, Prod.mk.injEq] at H
  obtain ⟨rfl, rfl, rfl⟩ := H
  go_enter Try.func177, Try.ntmps177
  go_wp2
  go_ret
  exact ⟨eqr, IsS83.at HI0, atB HB, atK HK⟩
 ·rw [if_neg c3] at H
  have c3b0 : decide (a1 ≤ 1) = false := decide_eq_false c3
  clear c3
  replace H := Option.bind_eq_some_iff.mp H
  obtain ⟨⟨t106, t107, t108⟩, A40, H⟩ := H
  replace H : (if a1 > 200 then ((spec_l1Cur_next.f s0_0 t107 t108).bind fun bt109 => (if a1 = 0 then (none) else (some (Int.tmod (wrap64 ((wrap64 (t106 * 256)) + bt109.1)) a1, bt109.2.1, bt109.2.2)))) else (if a1 = 0 then (none) else (some (Int.tmod t106 a1, t107, t108)))) = some (r1, r2, r3) := H
  have A4 := Aside0.mk A40
  clear A40
  by_cases c5 : a1 > 200
  ·rw [if_pos c5] at H
   have c5b0 : decide (200 < a1) = true := decide_eq_true c5
   clear c5
   replace H := Option.bind_eq_some_iff.mp H
   obtain ⟨⟨t109, t110, t111⟩, A60, H⟩ := H
   replace H : (if a1 = 0 then (none) else (some (Int.tmod (wrap64 ((wrap64 (t106 * 256)) + t109)) a1, t110, t111))) = some (r1, r2, r3) := H
   have A6 := Aside0.mk A60
   clear A60
   by_cases c7 : a1 = 0
   ·rw [if_pos c7] at H
    exact absurd H (by simp)
   ·rw [if_neg c7] at H
    have c7b0 : (a1 == 0) = false := beq_eq_false_iff_ne.mpr c7
    have c7b1 : (a1 != 0) = true := bne_iff_ne.mpr c7
    simp only [Option.some.injEq, Prod.mk.injEq] at H
    obtain ⟨rfl, rfl, rfl⟩ := H
    go_enter Try.func177, Try.ntmps177
    go_wp2_with (first | ((with_reducible refine gate_callee (f := 251) rfl ?_); refine goesA (some 9) Try.func251 #[.pointer (some ⟨g, 0, none⟩)] ?_; (with_reducible refine (spec_l1Cur_next.calls g s0_0 s0_1 s0_2 t106 t107 t108 w0 _ ?side1 ?side2 A4.out).mono ?_); (case side1 => exact IsS83.at HI0); (case side2 => exact atB HB); rintro e w8 ⟨rfl, hi, hb, hk⟩; refine ⟨_, rfl, ?_⟩; replace HK := upK HK hk; replace HB := Aside0.mk (hb); replace HI0 := Aside0.mk (hi); (try clear hb); (try clear hb2); (try clear hk); (try clear hi)) | ((with_reducible refine gate_callee (f := 251) rfl ?_); refine goesA (some 15) Try.func251 #[.pointer (some ⟨g, 0, none⟩)] ?_; (with_reducible refine (spec_l1Cur_next.calls g s0_0 t107 t108 t109 t110 t111 w0 _ ?side1 ?side2 A6.out).mono ?_); (case side1 => exact IsS83.at HI0); (case side2 => exact atB HB); rintro e w9 ⟨rfl, hi, hb, hk⟩; refine ⟨_, rfl, ?_⟩; replace HK := upK HK hk; replace HB := Aside0.mk (hb); replace HI0 := Aside0.mk (hi); (try clear hb); (try clear hb2); (try clear hk); (try clear hi)))
    go_ret
    exact ⟨eqr, IsS83.at HI0, atB HB, atK HK⟩
  ·rw [if_neg c5] at H
   have c5b0 : decide (200 < a1) = false := decide_eq_false c5
   clear c5
   by_cases c10 : a1 = 0
   ·rw [if_pos c10] at H
    exact absurd H (by simp)
   ·rw [if_neg c10] at H
    have c10b0 : (a1 == 0) = false := beq_eq_false_iff_ne.mpr c10
    have c10b1 : (a1 != 0) = true := bne_iff_ne.mpr c10
    simp only [Option.some.injEq, Prod.mk.injEq] at H
    obtain ⟨rfl, rfl, rfl⟩ := H
    go_enter Try.func177, Try.ntmps177
    go_wp2_with (first | ((with_reducible refine gate_callee (f := 251) rfl ?_); refine goesA (some 9) Try.func251 #[.pointer (some ⟨g, 0, none⟩)] ?_; (with_reducible refine (spec_l1Cur_next.calls g s0_0 s0_1 s0_2 t106 t107 t108 w0 _ ?side1 ?side2 A4.out).mono ?_); (case side1 => exact IsS83.at HI0); (case side2 => exact atB HB); rintro e w11 ⟨rfl, hi, hb, hk⟩; refine ⟨_, rfl, ?_⟩; replace HK := upK HK hk; replace HB := Aside0.mk (hb); replace HI0 := Aside0.mk (hi); (try clear hb); (try clear hb2); (try clear hk); (try clear hi)))
    go_ret
    exact ⟨eqr, IsS83.at HI0, atB HB, atK HK⟩


end Go.Proofs.Ytadhfbchilaklaa.Fn
namespace Go.Proofs.Ytadhfbchilaklaa.Fn
open Go.RowKit Go.Proofs.YtadhfbchilaklaaW.PrintWords Go.Proofs.YtadhfbchilaklaaW.PrintLast Go.Proofs.YtadhfbchilaklaaW.PrintMore
attribute [local go_sem] max2_int min2_int max_two min_two max_three min_three max_four min_four   -- for this text's walks alone
set_option linter.unusedVariables false
set_option linter.unusedSimpArgs false

/-! ### laws_big: function 9 -/
def laws_big.f (l0 : List Int) (l1 : List Int) : Option (Bool) := if (l0.length : Int) > 1048576 then (some true) else (some (decide ((l1.length : Int) > (wrap64 (1048576 - (l0.length : Int))))))
set_option maxHeartbeats 8000000 in
set_option maxRecDepth 100000 in
theorem laws_big.calls (A0 : Option Addr) (c0 : Nat) (l0 : List Int) (A1 : Option Addr) (c1 : Nat) (l1 : List Int) (r : Bool) (w : World) (hr0 : Kd.C (Kd.int .u8) w A0 l0.length l0) (hc0 : l0.length ≤ c0) (hr1 : Kd.C (Kd.int .u8) w A1 l1.length l1) (hc1 : l1.length ≤ c1) (h : laws_big.f l0 l1 = some r) :
  Calls Try.prog 9 #[.slice A0 l0.length c0, .slice A1 l1.length c1] w fun e w' => e = .returned (.bool r) ∧ Drawn0 w w' := by
 have HR0 := Aside0.mk hr0
 have HC0 := Aside0.mk hc0
 clear hr0 hc0
 have HR1 := Aside0.mk hr1
 have HC1 := Aside0.mk hc1
 clear hr1 hc1
 have H := h
 unfold laws_big.f at H
 clear h
 by_cases c3 : (l0.length : Int) > 1048576
 ·rw [if_pos c3] at H
  have c3b0 : decide (1048576 < (l0.length : Int)) = true := decide_eq_true c3
  have c3b1 : decide (1048576 < l0.length) = true := decide_eq_true (by omega)
  clear c3
  obtain rfl := Option.some.inj H
  go_enter Try.func9, Try.ntmps9
  go_wp2
  go_ret
  exact ⟨by first | rfl | (simp; done) | (simp [*]; done), by repeat (first | exact Drawn0.refl _ | apply Drawn0.step)⟩
 ·rw [if_neg c3] at H
  have c3b0 : decide (1048576 < (l0.length : Int)) = false := decide_eq_false c3
  have c3b1 : decide (1048576 < l0.length) = false := decide_eq_false (by omega)
  clear c3
  obtain rfl := Option.some.inj H
  go_enter Try.func9, Try.ntmps9
  go_wp2
  go_ret
  exact ⟨by first | rfl | (simp; done) | (simp [*]; done), by repeat (first | exact Drawn0.refl _ | apply Drawn0.step)⟩


end Go.Proofs.Ytadhfbchilaklaa.Fn
namespace Go.Proofs.Ytadhfbchilaklaa.Fn
open Go.RowKit Go.Proofs.YtadhfbchilaklaaW.PrintWords Go.Proofs.YtadhfbchilaklaaW.PrintLast Go.Proofs.YtadhfbchilaklaaW.PrintMore
attribute [local go_sem] max2_int min2_int max_two min_two max_three min_three max_four min_four   -- for this text's walks alone
set_option linter.unusedVariables false
set_option linter.unusedSimpArgs false

/-! ### spec_l1Cur_among: function 178 -/
def spec_l1Cur_among.f (s0_0 : List Int) (s0_1 : Int) (s0_2 : Int) (l1 : List Int) : Option (Int × Int × Int) := (spec_l1Cur_pick.f s0_0 s0_1 s0_2 (l1.length : Int)).bind fun bt115 => (if 0 ≤ bt115.1 then (if bt115.1 < (l1.length : Int) then (some (rd l1 bt115.1, bt115.2.1, bt115.2.2)) else (none)) else (none))
set_option maxHeartbeats 8000000 in
set_option maxRecDepth 100000 in
theorem spec_l1Cur_among.calls (g : Nat) (s0_0 : List Int) (s0_1 : Int) (s0_2 : Int) (A1 : Option Addr) (c1 : Nat) (l1 : List Int) (r1 : Int) (r2 : Int) (r3 : Int) (w0 w : World) (hI : IsS83 w0 w g s0_0 s0_1 s0_2) (hB : Below w0.heap.size w0 w) (hr1 : Kd.C (Kd.int .i64) w A1 l1.length l1) (hc1 : l1.length ≤ c1) (hf1 : ∀ ad, A1 = some ad → 0 < l1.length → ad.block ≠ g) (h : spec_l1Cur_among.f s0_0 s0_1 s0_2 l1 = some (r1, r2, r3)) :
  Calls Try.prog 178 #[.pointer (some ⟨g, 0, none⟩), .slice A1 l1.length c1] w fun e w' => e = .returned (.int .i64 r1) ∧ IsS83 w0 w' g s0_0 r2 r3 ∧ Below w0.heap.size w0 w' ∧ KeepBut w w' g none := by
 have HR1 := Aside0.mk hr1
 have HC1 := Aside0.mk hc1
 clear hr1 hc1
 have HI0 := Aside0.mk hI
 have HK := Aside0.mk (KeepBut.refl w g none)
 have HL := Aside0.mk hB.size
 clear hI
 have HW0 := Aside0.mk hB.size
 have HB := Aside0.mk hB
 clear hB
 have H := h
 unfold spec_l1Cur_among.f at H
 clear h
 replace H := Option.bind_eq_some_iff.mp H
 obtain ⟨⟨t115, t116, t117⟩, A30, H⟩ := H
 replace H : (if 0 ≤ t115 then (if t115 < (l1.length : Int) then (some (rd l1 t115, t116, t117)) else (none)) else (none)) = some (r1, r2, r3) := H
 have A3 := Aside0.mk A30
 clear A30
 by_cases c4 : 0 ≤ t115
 ·rw [if_pos c4] at H
  have c4b0 : decide (0 ≤ t115) = true := decide_eq_true c4
  clear c4
  by_cases c5 : t115 < (l1.length : Int)
  ·rw [if_pos c5] at H
   have c5b0 : decide (t115 < (l1.length : Int)) = true := decide_eq_true c5
   clear c5
   simp only [Option.some.injEq, Prod.mk.injEq] at H
   obtain ⟨rfl, rfl, rfl⟩ := H
   go_enter Try.func178, Try.ntmps178
   go_wp2_with (first | ((with_reducible refine gate_callee (f := 177) rfl ?_); refine goesA (some 9) Try.func177 #[.pointer (some ⟨g, 0, none⟩), .int .i64 (l1.length : Int)] ?_; (with_reducible refine (spec_l1Cur_pick.calls g s0_0 s0_1 s0_2 (l1.length : Int) t115 t116 t117 w0 _ ?side1 ?side2 A3.out).mono ?_); (case side1 => exact IsS83.at HI0); (case side2 => exact atB HB); rintro e w6 ⟨rfl, hi, hb, hk⟩; refine ⟨_, rfl, ?_⟩; replace HK := upK HK hk; replace HB := Aside0.mk (hb); replace HI0 := Aside0.mk (hi); (try clear hb); (try clear hb2); (try clear hk); (try clear hi); have p118 : 0 ≤ (t115 : Int) := ofd; have q118 : t115 < (l1.length : Int) := ofd; obtain ⟨ad118, e118, hx118_0⟩ := Kd.at_int HR1.out t115 p118 q118; cases e118; replace hx118_0 := keep_cell HK.out hx118_0 (by first | (rw [add_block]; exact hf1 _ rfl (by omega)) | exact hf1 _ rfl (by omega) | exact hf1 ad118 rfl (by omega)); replace p118 := eq_true p118; replace q118 := eq_true q118))
   go_ret
   exact ⟨eqr, IsS83.at HI0, atB HB, atK HK⟩
  ·rw [if_neg c5] at H
   exact absurd H (by simp)
 ·rw [if_neg c4] at H
  exact absurd H (by simp)


end Go.Proofs.Ytadhfbchilaklaa.Fn
namespace Go.Proofs.Ytadhfbchilaklaa.Fn
open Go.RowKit Go.Proofs.YtadhfbchilaklaaW.PrintWords Go.Proofs.YtadhfbchilaklaaW.PrintLast Go.Proofs.YtadhfbchilaklaaW.PrintMore
attribute [local go_sem] max2_int min2_int max_two min_two max_three min_three max_four min_four   -- for this text's walks alone
set_option linter.unusedVariables false
set_option linter.unusedSimpArgs false

/-! ### spec_DrawIsRoot: function 170 -/
def spec_DrawIsRoot.f (l0 : List Int) : Option (Int × Int) := (spec_l1Cur_among.f l0 0 0 (([3, 5, 7, 11, 13, 2, 9, 17] : List Int))).bind fun bt601 => ((spec_l1Cur_among.f l0 bt601.2.1 bt601.2.2 (([2, 3, 4, 5, 6, 7, 1, 12, 13] : List Int))).bind fun bt607 => (some (bt601.1, bt607.1)))
set_option maxHeartbeats 8000000 in
set_option maxRecDepth 100000 in
theorem spec_DrawIsRoot.calls (A0 : Option Addr) (c0 : Nat) (l0 : List Int) (r1 : Int) (r2 : Int) (w : World) (hr0 : Kd.C (Kd.int .u8) w A0 l0.length l0) (hc0 : l0.length ≤ c0) (h : spec_DrawIsRoot.f l0 = some (r1, r2)) :
  Calls Try.prog 170 #[.slice A0 l0.length c0] w fun e w' => e = .returned (.tuple #[.int .i64 r1, .int .i64 r2]) ∧ Below w.heap.size w w' := by
 have hu83 := Try.underlying83
 have HR0 := Aside0.mk hr0
 have HC0 := Aside0.mk hc0
 clear hr0 hc0
 have HB := Aside0.mk (Below.refl w.heap.size w)
 have H := h
 unfold spec_DrawIsRoot.f at H
 clear h
 obtain ⟨y598, hy598⟩ : ∃ y_ : List Int, y_ = (([3, 5, 7, 11, 13, 2, 9, 17] : List Int)) := ⟨_, rfl⟩
 replace H : ((spec_l1Cur_among.f l0 0 0 y598).bind fun bt601 => ((spec_l1Cur_among.f l0 bt601.2.1 bt601.2.2 (([2, 3, 4, 5, 6, 7, 1, 12, 13] : List Int))).bind fun bt607 => (some (bt601.1, bt607.1)))) = some (r1, r2) := by first | (rw [hy598]; with_reducible exact H) | (have H2_ := (Option.bind_some _ _).symm.trans H; rw [hy598]; with_reducible exact H2_) | (have H2_ := (Option.bind_some _ _).symm.trans H; with_reducible exact H2_) | with_reducible exact H | (rw [hy598]; exact H) | exact H
 have Ny598 := Aside0.mk hy598
 clear hy598
 replace H := Option.bind_eq_some_iff.mp H
 obtain ⟨⟨t601, t602, t603⟩, A20, H⟩ := H
 replace H : ((spec_l1Cur_among.f l0 t602 t603 (([2, 3, 4, 5, 6, 7, 1, 12, 13] : List Int))).bind fun bt607 => (some (t601, bt607.1))) = some (r1, r2) := H
 have A2 := Aside0.mk A20
 clear A20
 obtain ⟨y604, hy604⟩ : ∃ y_ : List Int, y_ = (([2, 3, 4, 5, 6, 7, 1, 12, 13] : List Int)) := ⟨_, rfl⟩
 replace H : ((spec_l1Cur_among.f l0 t602 t603 y604).bind fun bt607 => (some (t601, bt607.1))) = some (r1, r2) := by first | (rw [hy604]; with_reducible exact H) | (have H2_ := (Option.bind_some _ _).symm.trans H; rw [hy604]; with_reducible exact H2_) | (have H2_ := (Option.bind_some _ _).symm.trans H; with_reducible exact H2_) | with_reducible exact H | (rw [hy604]; exact H) | exact H
 have Ny604 := Aside0.mk hy604
 clear hy604
 replace H := Option.bind_eq_some_iff.mp H
 obtain ⟨⟨t607, t608, t609⟩, A30, H⟩ := H
 replace H : (some (t601, t607)) = some (r1, r2) := H
 have A3 := Aside0.mk A30
 clear A30
 simp only [Option.some.injEq, Prod.mk.injEq] at H
 obtain ⟨rfl, rfl⟩ := H
 go_enter Try.func170, Try.ntmps170
 go_wp2_with (first | ((with_reducible refine gate_dst (N := 7) rfl ?_); refine box_event ?hg (N := 7) ?hd (cs := #[.slice A0 l0.length c0, .int .i64 0, .int .u64 0]) (t := 83) ?hr ?_; (case hd => rfl); (case hg => rfl); (case hr => first | (go_simp; done) | (go_simp; rfl)); intro gb597 hg w4 hbox hb; have HI597 := Aside0.mk ((⟨_, _, hbox, (by rw [hg]; exact (szB HB) : w.heap.size ≤ gb597), HR0.out⟩ : IsS83 w w4 gb597 l0 0 0)); replace HB := upB HB hb; clear hb hbox hg) | ((with_reducible refine gate_dst (N := 9) rfl ?_); refine Kd.R_lit (Kd.int .i64) _ 3 ?hg (N := 9) ?hd (xs := ([3, 5, 7, 11, 13, 2, 9, 17] : List Int)) (inner := [.int .i64 3, .int .i64 5, .int .i64 7, .int .i64 11, .int .i64 13, .int .i64 2, .int .i64 9, .int .i64 17]) (ok := fun _ => True) (okp := fun _ => True) ?hr ?hp (fun _ hk => hk) trivial (Below.refl _ _) (Nat.le_refl _) (by simp) ?_; (case hd => rfl); (case hg => rfl); (case hr => first | (go_simp; done) | (go_simp; rfl)); (case hp => exact repsI _); intro v599 w5 ho6 hb hg_ hnew_; clear hg_ hnew_; (first | rw [← Ny598.out] at ho6 | (simp only [Int.reduceToNat] at ho6; rw [← Ny598.out] at ho6)); have HO600 := lowR ho6 HB; replace HI597 := IsS83.up HI597 hb; replace HB := upB HB hb; clear hb ho6; obtain ⟨Ao7, co7, eo7⟩ := Kd.R_slice HO600.out; subst eo7) | ((with_reducible refine gate_callee (f := 178) rfl ?_); refine goesA (some 10) Try.func178 #[.pointer (some ⟨gb597, 0, none⟩), .slice Ao7 y598.length co7] ?_; (with_reducible refine (spec_l1Cur_among.calls gb597 l0 0 0 _ _ y598 t601 t602 t603 w _ ?side1 ?side2 ?side3 ?side4 ?side5 A2.out).mono ?_); (case side1 => exact IsS83.at HI597); (case side2 => exact atB HB); (case side3 => exact atRC HO600); (case side4 => exact (Kd.R_reads' HO600.out).2.1); (case side5 => exact far_slice (IsS83.own_ne HI597.out HO600.out (by decide))); rintro e w8 ⟨rfl, hi, hb, hk⟩; refine ⟨_, rfl, ?_⟩; replace HO600 := IsS83.keepR HI597 HO600 hk; replace HB := Aside0.mk (hb); replace HI597 := Aside0.mk (hi); (try clear hb); (try clear hb2); (try clear hk); (try clear hi)) | ((with_reducible refine gate_dst (N := 12) rfl ?_); refine Kd.R_lit (Kd.int .i64) _ 3 ?hg (N := 12) ?hd (xs := ([2, 3, 4, 5, 6, 7, 1, 12, 13] : List Int)) (inner := [.int .i64 2, .int .i64 3, .int .i64 4, .int .i64 5, .int .i64 6, .int .i64 7, .int .i64 1, .int .i64 12, .int .i64 13]) (ok := fun _ => True) (okp := fun _ => True) ?hr ?hp (fun _ hk => hk) trivial (Below.refl _ _) (Nat.le_refl _) (by simp) ?_; (case hd => rfl); (case hg => rfl); (case hr => first | (go_simp; done) | (go_simp; rfl)); (case hp => exact repsI _); intro v605 w9 ho10 hb hg_ hnew_; clear hg_ hnew_; (first | rw [← Ny604.out] at ho10 | (simp only [Int.reduceToNat] at ho10; rw [← Ny604.out] at ho10)); have HO606 := Aside0.mk (Kd.R_lower (Kd.R_new' ho10 (ltR HO600)) (szB HB)); replace HO600 := eldRR HO600 ho10 hb; replace HI597 := IsS83.up HI597 hb; replace HB := upB HB hb; clear hb ho10; obtain ⟨Ao11, co11, eo11⟩ := Kd.R_slice HO606.out; subst eo11) | ((with_reducible refine gate_callee (f := 178) rfl ?_); refine goesA (some 13) Try.func178 #[.pointer (some ⟨gb597, 0, none⟩), .slice Ao11 y604.length co11] ?_; (with_reducible refine (spec_l1Cur_among.calls gb597 l0 t602 t603 _ _ y604 t607 t608 t609 w _ ?side1 ?side2 ?side3 ?side4 ?side5 A3.out).mono ?_); (case side1 => exact IsS83.at HI597); (case side2 => exact atB HB); (case side3 => exact atRC HO606); (case side4 => exact (Kd.R_reads' HO606.out).2.1); (case side5 => exact far_slice (IsS83.own_ne HI597.out HO606.out (by decide))); rintro e w12 ⟨rfl, hi, hb, hk⟩; refine ⟨_, rfl, ?_⟩; replace HO600 := IsS83.keepR HI597 HO600 hk; replace HO606 := IsS83.keepR HI597 HO606 hk; replace HB := Aside0.mk (hb); replace HI597 := Aside0.mk (hi); (try clear hb); (try clear hb2); (try clear hk); (try clear hi)))
 go_ret2
 exact ⟨eqr, atB HB⟩


end Go.Proofs.Ytadhfbchilaklaa.Fn
namespace Go.Proofs.Ytadhfbchilaklaa.Fn
open Go.RowKit Go.Proofs.YtadhfbchilaklaaW.PrintWords Go.Proofs.YtadhfbchilaklaaW.PrintLast Go.Proofs.YtadhfbchilaklaaW.PrintMore
attribute [local go_sem] max2_int min2_int max_two min_two max_three min_three max_four min_four   -- for this text's walks alone
set_option linter.unusedVariables false
set_option linter.unusedSimpArgs false

/-! ### impl_powers: function 172 -/
def impl_powers.l0 : Nat → Int → Int → List Int → Option (List Int)
 | 0, _, _, _ => none
 | k + 1, x0, x1, x5 => if (x5.length : Int) < (wrap64 (x0 - 1)) then (if 0 ≤ (wrap64 ((x5.length : Int) - 1)) then (if (wrap64 ((x5.length : Int) - 1)) < (x5.length : Int) then (if x0 = 0 then (none) else (if x5.length < 17592186044416 then (impl_powers.l0 k x0 x1 (x5 ++ [Int.tmod (wrap64 ((rd x5 (wrap64 ((x5.length : Int) - 1))) * x1)) x0])) else (none))) else (none)) else (none)) else (some x5)
def impl_powers.f (k : Nat) (a0 : Int) (a1 : Int) : Option (List Int) := impl_powers.l0 k a0 a1 (([1] : List Int))
theorem impl_powers.mono_l : ∀ k, (∀ y0 y1 y2, LeO (impl_powers.l0 k y0 y1 y2) (impl_powers.l0 (k + 1) y0 y1 y2))
 | 0 => fun _ _ _ r h => by simp [impl_powers.l0] at h
 | k + 1 => by
  have ih0 := impl_powers.mono_l k
  ·intro y0 y1 y2
   unfold impl_powers.l0
   repeat' (first | (with_reducible first | exact ih0 _ _ _ | exact LeO.refl _ | exact LeO.none _ | refine LeO.ite ?_ ?_ | refine LeO.bind ?_ (fun _ => ?_)) | exact ih0 _ _ _ | exact LeO.none _ | refine LeO.ite ?_ ?_ | refine LeO.bind ?_ (fun _ => ?_))
theorem impl_powers.mono : ∀ a0 a1 k, LeO (impl_powers.f k a0 a1) (impl_powers.f (k + 1) a0 a1) := by
 intro a0 a1 k
 have ih0 := impl_powers.mono_l k
 unfold impl_powers.f
 repeat' (first | (with_reducible first | exact ih0 _ _ _ | exact LeO.refl _ | exact LeO.none _ | refine LeO.ite ?_ ?_ | refine LeO.bind ?_ (fun _ => ?_)) | exact ih0 _ _ _ | exact LeO.none _ | refine LeO.ite ?_ ?_ | refine LeO.bind ?_ (fun _ => ?_))
set_option maxHeartbeats 8000000 in
set_option maxRecDepth 100000 in
theorem impl_powers.calls (k : Nat) (a0 : Int) (a1 : Int) (r : List Int) (w : World) (h : impl_powers.f k a0 a1 = some r) :
  Calls Try.prog 172 #[.int .i64 a0, .int .i64 a1] w fun e w' => ∃ v0_ : Value, e = .returned (v0_) ∧ Kd.R (Kd.int .i64) 3 w' w.heap.size (fun _ => True) v0_ r ∧ Below w.heap.size w w' := by
 have HB := Aside0.mk (Below.refl w.heap.size w)
 have H := h
 unfold impl_powers.f at H
 clear h
 obtain ⟨y612, hy612⟩ : ∃ y_ : List Int, y_ = (([1] : List Int)) := ⟨_, rfl⟩
 replace H : (impl_powers.l0 k a0 a1 y612) = some r := by first | (rw [hy612]; with_reducible exact H) | (have H2_ := (Option.bind_some _ _).symm.trans H; rw [hy612]; with_reducible exact H2_) | (have H2_ := (Option.bind_some _ _).symm.trans H; with_reducible exact H2_) | with_reducible exact H | (rw [hy612]; exact H) | exact H
 have Ny612 := Aside0.mk hy612
 clear hy612
 have H' := Aside0.mk H
 clear H
 go_enter Try.func172, Try.ntmps172
 go_wp2_with (first | ((with_reducible refine gate_dst (N := 6) rfl ?_); refine Kd.R_lit (Kd.int .i64) _ 3 ?hg (N := 6) ?hd (xs := ([1] : List Int)) (inner := [.int .i64 1]) (ok := fun _ => True) (okp := fun _ => True) ?hr ?hp (fun _ hk => hk) trivial (Below.refl _ _) (Nat.le_refl _) (by simp) ?_; (case hd => rfl); (case hg => rfl); (case hr => first | (go_simp; done) | (go_simp; rfl)); (case hp => exact repsI _); intro v613 w3 ho4 hb hg_ hnew_; clear hg_ hnew_; (first | rw [← Ny612.out] at ho4 | (simp only [Int.reduceToNat] at ho4; rw [← Ny612.out] at ho4)); have HO614 := lowR ho4 HB; replace HB := upB HB hb; clear hb ho4))
 go_loopg [5] k (fun kq v5 w' => ∃ (x5_1 : List Int), Aside0 (impl_powers.l0 kq a0 a1 x5_1 = some r) ∧ Aside0 (kq ≤ k) ∧ Aside0 (Kd.R (Kd.int .i64) 3 w' w.heap.size (fun _ => True) v5 x5_1) ∧ Aside0 (Below w.heap.size w w'))
 case atStart => exact ⟨(y612), H', ⟨Nat.le_refl _⟩, ⟨atR HO614⟩, ⟨atB HB⟩⟩
 case round =>
  clear H'
  try clear c1
  try clear p2
  obtain ⟨x5_1, HA, HK1, HO_5, HB⟩ := hrel
  cases gk with
  | zero => exact absurd HA.out (by simp [impl_powers.l0])
  | succ k1 =>
   have H := HA.out
   clear HA
   simp only [impl_powers.l0] at H
   by_cases c5 : (x5_1.length : Int) < (wrap64 (a0 - 1))
   ·rw [if_pos c5] at H
    have c5b0 : decide ((x5_1.length : Int) < (wrap64 (a0 - 1))) = true := decide_eq_true c5
    clear c5
    obtain ⟨ji6, hji6⟩ : ∃ j_ : Int, (wrap64 ((x5_1.length : Int) - 1)) = j_ := ⟨_, rfl⟩
    replace H : (if 0 ≤ (ji6) then (if (ji6) < (x5_1.length : Int) then (if a0 = 0 then (none) else (if x5_1.length < 17592186044416 then (impl_powers.l0 k1 a0 a1 (x5_1 ++ [Int.tmod (wrap64 ((rd x5_1 (ji6)) * a1)) a0])) else (none))) else (none)) else (none)) = some r := by first | (rw [hji6] at H; exact H) | (simp only [hji6] at H ⊢; exact H)
    have hji6w : (IntKind.i64.wrap ((x5_1.length : Int) - 1)) = ji6 := (i64_w _).trans hji6
    by_cases c7 : 0 ≤ (ji6)
    ·rw [if_pos c7] at H
     have c7b0 : decide (0 ≤ (ji6)) = true := decide_eq_true c7
     clear c7
     by_cases c8 : (ji6) < (x5_1.length : Int)
     ·rw [if_pos c8] at H
      have c8b0 : decide ((ji6) < (x5_1.length : Int)) = true := decide_eq_true c8
      clear c8
      by_cases c9 : a0 = 0
      ·rw [if_pos c9] at H
       exact absurd H (by simp)
      ·rw [if_neg c9] at H
       have c9b0 : (a0 == 0) = false := beq_eq_false_iff_ne.mpr c9
       have c9b1 : (a0 != 0) = true := bne_iff_ne.mpr c9
       by_cases c10 : x5_1.length < 17592186044416
       ·rw [if_pos c10] at H
        have LMc10 := Aside0.mk c10
        clear c10
        obtain ⟨y616, hy616⟩ : ∃ y_ : List Int, y_ = (x5_1 ++ [Int.tmod (wrap64 ((rd x5_1 (ji6)) * a1)) a0]) := ⟨_, rfl⟩
        replace H : (impl_powers.l0 k1 a0 a1 y616) = some r := by first | (rw [hy616]; with_reducible exact H) | (have H2_ := (Option.bind_some _ _).symm.trans H; rw [hy616]; with_reducible exact H2_) | (have H2_ := (Option.bind_some _ _).symm.trans H; with_reducible exact H2_) | with_reducible exact H | (rw [hy616]; exact H) | exact H
        have Ny616 := Aside0.mk hy616
        clear hy616
        have H' := Aside0.mk H
        clear H
        obtain ⟨Ao11, co11, eo11⟩ := Kd.R_slice HO_5.out
        subst eo11
        have p615 : 0 ≤ ((ji6) : Int) := ofd
        have q615 : (ji6) < (x5_1.length : Int) := ofd
        obtain ⟨ad615, e615, hx615_0⟩ := Kd.at_int (Kd.R_reads' HO_5.out).2.2 (ji6) p615 q615
        cases e615
        replace p615 := eq_true p615
        replace q615 := eq_true q615
        go_wp2_with (first | ((with_reducible refine gate_builtin (b := .append) (xs := #[.tmp 12, .tmp 23]) rfl ?_); at_builtin; refine Kd.R_append (Kd.int .i64) (w0 := w) w.heap.size rfl (.tmp 12) (.tmp 23) 24 3 (.int .i64 0) 8 rfl Try.underlying24 info3 rfl (by decide) (by omega) (.slice (some ad615) x5_1.length co11) x5_1 (Int.tmod (wrap64 ((rd x5_1 (ji6)) * a1)) a0) [.int .i64 (Int.tmod (wrap64 ((rd x5_1 (ji6)) * a1)) a0)] (fun _ => True) (fun _ => False) rfl rfl ?aP (fun _ hk => hk.elim) ?aF ?aO ?aB ?aS ?aL ?_; (case aP => exact rfl); (case aB => exact (atB HB)); (case aF => exact (fun _ _ => trivial)); (case aO => exact (atR HO_5)); (case aS => exact (szB HB)); (case aL => have := LMc10.out; omega); intro v617 w12 ho hb hg hat; rw [← Ny616.out] at ho; have HO618 := Aside0.mk (ho); replace HB := Aside0.mk (hb); clear HO_5; clear ho hb hg hat))
        first | go_roundg k1 | ((try subst hji6); go_roundg k1)
        case measure => have := HK1.out; omega
        case rel => exact ⟨(y616), H', ⟨by have := HK1.out; omega⟩, ⟨atR HO618⟩, ⟨atB HB⟩⟩
       ·rw [if_neg c10] at H
        exact absurd H (by simp)
     ·rw [if_neg c8] at H
      exact absurd H (by simp)
    ·rw [if_neg c7] at H
     exact absurd H (by simp)
   ·rw [if_neg c5] at H
    have c5b0 : decide ((x5_1.length : Int) < (wrap64 (a0 - 1))) = false := decide_eq_false c5
    clear c5
    obtain rfl := Option.some.inj H
    obtain ⟨Ao13, co13, eo13⟩ := Kd.R_slice HO_5.out
    subst eo13
    go_wp2
    go_ret
    exact ⟨_, eqr, atR HO_5, atB HB⟩

noncomputable def impl_powers.L0 (x0 : Int) (x1 : Int) (x5 : List Int) : Option (List Int) := lim fun k => impl_powers.l0 k x0 x1 x5
theorem impl_powers.L0_lim (x0 : Int) (x1 : Int) (x5 : List Int) : Lim (fun k => impl_powers.l0 k x0 x1 x5) (impl_powers.L0 x0 x1 x5) := Lim.of fun k => (impl_powers.mono_l k) x0 x1 x5
noncomputable def impl_powers.F (a0 : Int) (a1 : Int) : Option (List Int) := lim fun k => impl_powers.f k a0 a1
theorem impl_powers.F_lim (a0 : Int) (a1 : Int) : Lim (fun k => impl_powers.f k a0 a1) (impl_powers.F a0 a1) := Lim.of fun k => impl_powers.mono a0 a1 k
theorem impl_powers.L0_eq (x0 : Int) (x1 : Int) (x5 : List Int) : impl_powers.L0 x0 x1 x5 = (if (x5.length : Int) < (wrap64 (x0 - 1)) then (if 0 ≤ (wrap64 ((x5.length : Int) - 1)) then (if (wrap64 ((x5.length : Int) - 1)) < (x5.length : Int) then (if x0 = 0 then (none) else (if x5.length < 17592186044416 then (impl_powers.L0 x0 x1 (x5 ++ [Int.tmod (wrap64 ((rd x5 (wrap64 ((x5.length : Int) - 1))) * x1)) x0])) else (none))) else (none)) else (none)) else (some x5)) :=
 Lim.step (f := fun k => impl_powers.l0 (k + 1) x0 x1 x5) (impl_powers.L0_lim x0 x1 x5) (fun _ => rfl) (by
  simp only [impl_powers.l0]
  repeat' (first | (with_reducible first | exact Lim.const _ | exact impl_powers.L0_lim _ _ _ | refine Lim.ite ?_ ?_ | refine Lim.bind ?_ (fun _ => ?_))))
theorem impl_powers.F_eq (a0 : Int) (a1 : Int) : impl_powers.F a0 a1 = (impl_powers.L0 a0 a1 (([1] : List Int))) :=
 Lim.unique (impl_powers.F_lim a0 a1) (by
  unfold impl_powers.f
  repeat' (first | (with_reducible first | exact Lim.const _ | exact impl_powers.L0_lim _ _ _ | refine Lim.ite ?_ ?_ | refine Lim.bind ?_ (fun _ => ?_))))

end Go.Proofs.Ytadhfbchilaklaa.Fn
namespace Go.Proofs.Ytadhfbchilaklaa.Fn
open Go.RowKit Go.Proofs.YtadhfbchilaklaaW.PrintWords Go.Proofs.YtadhfbchilaklaaW.PrintLast Go.Proofs.YtadhfbchilaklaaW.PrintMore
attribute [local go_sem] max2_int min2_int max_two min_two max_three min_three max_four min_four   -- for this text's walks alone
set_option linter.unusedVariables false
set_option linter.unusedSimpArgs false

/-! ### impl_isPrime: function 250 -/
def impl_isPrime.f (a0 : Int) : Option (Bool) := if a0 = 3 then (some true) else (if a0 = 5 then (some true) else (if a0 = 7 then (some true) else (if a0 = 11 then (some true) else (some (a0 == 13)))))
set_option maxHeartbeats 8000000 in
set_option maxRecDepth 100000 in
theorem impl_isPrime.calls (a0 : Int) (r : Bool) (w : World) (h : impl_isPrime.f a0 = some r) :
  Calls Try.prog 250 #[.int .i64 a0] w fun e w' => e = .returned (.bool r) ∧ Drawn0 w w' := by
 have H := h
 unfold impl_isPrime.f at H
 clear h
 by_cases c2 : a0 = 3
 ·rw [if_pos c2] at H
  have c2b0 : (a0 == 3) = true := beq_iff_eq.mpr c2
  have c2b1 : (a0 != 3) = false := bne_eq_false_iff_eq.mpr c2
  clear c2
  obtain rfl := Option.some.inj H
  go_enter Try.func250, Try.ntmps250
  go_wp2
  go_ret
  exact ⟨by first | rfl | (simp; done) | (simp [*]; done), by repeat (first | exact Drawn0.refl _ | apply Drawn0.step)⟩
 ·rw [if_neg c2] at H
  have c2b0 : (a0 == 3) = false := beq_eq_false_iff_ne.mpr c2
  have c2b1 : (a0 != 3) = true := bne_iff_ne.mpr c2
  by_cases c3 : a0 = 5
  ·rw [if_pos c3] at H
   have c3b0 : (a0 == 5) = true := beq_iff_eq.mpr c3
   have c3b1 : (a0 != 5) = false := bne_eq_false_iff_eq.mpr c3
   clear c3
   obtain rfl := Option.some.inj H
   go_enter Try.func250, Try.ntmps250
   go_wp2
   go_ret
   exact ⟨by first | rfl | (simp; done) | (simp [*]; done), by repeat (first | exact Drawn0.refl _ | apply Drawn0.step)⟩
  ·rw [if_neg c3] at H
   have c3b0 : (a0 == 5) = false := beq_eq_false_iff_ne.mpr c3
   have c3b1 : (a0 != 5) = true := bne_iff_ne.mpr c3
   by_cases c4 : a0 = 7
   ·rw [if_pos c4] at H
    have c4b0 : (a0 == 7) = true := beq_iff_eq.mpr c4
    have c4b1 : (a0 != 7) = false := bne_eq_false_iff_eq.mpr c4
    clear c4
    obtain rfl := Option.some.inj H
    go_enter Try.func250, Try.ntmps250
    go_wp2
    go_ret
    exact ⟨by first | rfl | (simp; done) | (simp [*]; done), by repeat (first | exact Drawn0.refl _ | apply Drawn0.step)⟩
   ·rw [if_neg c4] at H
    have c4b0 : (a0 == 7) = false := beq_eq_false_iff_ne.mpr c4
    have c4b1 : (a0 != 7) = true := bne_iff_ne.mpr c4
    by_cases c5 : a0 = 11
    ·rw [if_pos c5] at H
     have c5b0 : (a0 == 11) = true := beq_iff_eq.mpr c5
     have c5b1 : (a0 != 11) = false := bne_eq_false_iff_eq.mpr c5
     clear c5
     obtain rfl := Option.some.inj H
     go_enter Try.func250, Try.ntmps250
     go_wp2
     go_ret
     exact ⟨by first | rfl | (simp; done) | (simp [*]; done), by repeat (first | exact Drawn0.refl _ | apply Drawn0.step)⟩
    ·rw [if_neg c5] at H
     have c5b0 : (a0 == 11) = false := beq_eq_false_iff_ne.mpr c5
     have c5b1 : (a0 != 11) = true := bne_iff_ne.mpr c5
     obtain rfl := Option.some.inj H
     go_enter Try.func250, Try.ntmps250
     go_wp2
     go_ret
     exact ⟨by first | rfl | (simp; done) | (simp [*]; done), by repeat (first | exact Drawn0.refl _ | apply Drawn0.step)⟩


end Go.Proofs.Ytadhfbchilaklaa.Fn
namespace Go.Proofs.Ytadhfbchilaklaa.Fn
open Go.RowKit Go.Proofs.YtadhfbchilaklaaW.PrintWords Go.Proofs.YtadhfbchilaklaaW.PrintLast Go.Proofs.YtadhfbchilaklaaW.PrintMore
attribute [local go_sem] max2_int min2_int max_two min_two max_three min_three max_four min_four   -- for this text's walks alone
set_option linter.unusedVariables false
set_option linter.unusedSimpArgs false

/-! ### impl_isRoot: function 171 -/
mutual
def impl_isRoot.j0 : Nat → Int → Int → Bool → Option (Bool × Bool)
 | 0, _, _, _ => none
 | k + 1, x0, x1, x20 => if x20 = true then (some (false, false)) else (if 0 ≤ x0 then (if (x0 : Int).toNat ≤ 281474976710656 then ((impl_powers.f k x0 x1).bind fun t623 => (impl_isRoot.l0 k (List.replicate (x0 : Int).toNat false) t623 (t623.length : Int) 0)) else (none)) else (none))
def impl_isRoot.l0 : Nat → List Bool → List Int → Int → Int → Option (Bool × Bool)
 | 0, _, _, _, _ => none
 | k + 1, x6, x25, x26, x27 => if x27 < x26 then (if 0 ≤ x27 then (if x27 < (x25.length : Int) then (if 0 ≤ (rd x25 x27) then (if (rd x25 x27) < (x6.length : Int) then (if rdOf false x6 (rd x25 x27) = true then (some (false, true)) else (impl_isRoot.l0 k (x6.set ((rd x25 x27) : Int).toNat true) x25 x26 (wrap64 (x27 + 1)))) else (none)) else (none)) else (none)) else (none)) else (some (true, true))
end
def impl_isRoot.f (k : Nat) (a0 : Int) (a1 : Int) : Option (Bool × Bool) := (impl_isPrime.f a0).bind fun t619 => (if t619 = true then (if a1 < 2 then (impl_isRoot.j0 k a0 a1 true) else (impl_isRoot.j0 k a0 a1 (decide (a1 ≥ a0)))) else (impl_isRoot.j0 k a0 a1 true))
theorem impl_isRoot.mono_l : ∀ k, (∀ y0 y1 y2, LeO (impl_isRoot.j0 k y0 y1 y2) (impl_isRoot.j0 (k + 1) y0 y1 y2)) ∧ (∀ y0 y1 y2 y3, LeO (impl_isRoot.l0 k y0 y1 y2 y3) (impl_isRoot.l0 (k + 1) y0 y1 y2 y3))
 | 0 => ⟨fun _ _ _ r h => by simp [impl_isRoot.j0] at h, fun _ _ _ _ r h => by simp [impl_isRoot.l0] at h⟩
 | k + 1 => by
  obtain ⟨ih0, ih1⟩ := impl_isRoot.mono_l k
  refine ⟨?_, ?_⟩
  ·intro y0 y1 y2
   unfold impl_isRoot.j0
   repeat' (first | (with_reducible first | exact ih1 _ _ _ _ | exact impl_powers.mono _ _ _ | exact LeO.refl _ | exact LeO.none _ | refine LeO.ite ?_ ?_ | refine LeO.bind ?_ (fun _ => ?_)) | exact ih1 _ _ _ _ | exact impl_powers.mono _ _ _ | exact LeO.none _ | refine LeO.ite ?_ ?_ | refine LeO.bind ?_ (fun _ => ?_))
  ·intro y0 y1 y2 y3
   unfold impl_isRoot.l0
   repeat' (first | (with_reducible first | exact ih1 _ _ _ _ | exact LeO.refl _ | exact LeO.none _ | refine LeO.ite ?_ ?_ | refine LeO.bind ?_ (fun _ => ?_)) | exact ih1 _ _ _ _ | exact LeO.none _ | refine LeO.ite ?_ ?_ | refine LeO.bind ?_ (fun _ => ?_))
theorem impl_isRoot.mono : ∀ a0 a1 k, LeO (impl_isRoot.f k a0 a1) (impl_isRoot.f (k + 1) a0 a1) := by
 intro a0 a1 k
 obtain ⟨ih0, ih1⟩ := impl_isRoot.mono_l k
 unfold impl_isRoot.f
 repeat' (first | (with_reducible first | exact ih0 _ _ _ | exact LeO.refl _ | exact LeO.none _ | refine LeO.ite ?_ ?_ | refine LeO.bind ?_ (fun _ => ?_)) | exact ih0 _ _ _ | exact LeO.none _ | refine LeO.ite ?_ ?_ | refine LeO.bind ?_ (fun _ => ?_))
set_option maxHeartbeats 8000000 in
set_option maxRecDepth 100000 in
theorem impl_isRoot.calls (k : Nat) (a0 : Int) (a1 : Int) (r1 : Bool) (r2 : Bool) (w : World) (h : impl_isRoot.f k a0 a1 = some (r1, r2)) :
  Calls Try.prog 171 #[.int .i64 a0, .int .i64 a1] w fun e w' => e = .returned (.tuple #[.bool r1, .bool r2]) ∧ Below w.heap.size w w' := by
 have HB := Aside0.mk (Below.refl w.heap.size w)
 have H := h
 unfold impl_isRoot.f at H
 clear h
 have HC3 := Aside0.mk H
 clear H
 go_enter Try.func171, Try.ntmps171
 go_upto_region 1 with (fail)
 go_cut [20] (fun v20 wc => ∃ (kq : Nat) (x20_2 : Bool), v20 = .bool x20_2 ∧ Aside0 (impl_isRoot.j0 kq a0 a1 x20_2 = some (r1, r2)) ∧ Aside0 (kq ≤ k) ∧ Aside0 (Below w.heap.size w wc))
 case first =>
  have H := HC3.out
  clear HC3
  replace H := Option.bind_eq_some_iff.mp H
  obtain ⟨t619, A40, H⟩ := H
  replace H : (if t619 = true then (if a1 < 2 then (impl_isRoot.j0 k a0 a1 true) else (impl_isRoot.j0 k a0 a1 (decide (a1 ≥ a0)))) else (impl_isRoot.j0 k a0 a1 true)) = some (r1, r2) := H
  have A4 := Aside0.mk A40
  clear A40
  by_cases c5 : t619 = true
  ·subst c5
   have H1 : (if a1 < 2 then (impl_isRoot.j0 k a0 a1 true) else (impl_isRoot.j0 k a0 a1 (decide (a1 ≥ a0)))) = some (r1, r2) := by rw [if_pos rfl] at H; exact H
   clear H
   have H := H1
   clear H1
   by_cases c6 : a1 < 2
   ·rw [if_pos c6] at H
    have c6b0 : decide (a1 < 2) = true := decide_eq_true c6
    clear c6
    (first | rw [c6b0] | (simp only [i64_w, i32_w]; rw [c6b0]) | skip)
    have H' := Aside0.mk H
    clear H
    go_wp2_with (first | ((with_reducible refine gate_callee (f := 250) rfl ?_); refine goesA (some 10) Try.func250 #[.int .i64 a0] ?_; (with_reducible refine (impl_isPrime.calls a0 true _ A4.out).mono ?_); rintro e w' ⟨rfl, ⟨nd, rfl⟩⟩; refine ⟨_, rfl, ?_⟩))
    go_meet
    case rel => exact ⟨_, (true), eqd, H', ⟨leD⟩, ⟨atB HB⟩⟩
   ·rw [if_neg c6] at H
    have c6b0 : decide (a1 < 2) = false := decide_eq_false c6
    clear c6
    (first | rw [c6b0] | (simp only [i64_w, i32_w]; rw [c6b0]) | skip)
    have H' := Aside0.mk H
    clear H
    go_wp2_with (first | ((with_reducible refine gate_callee (f := 250) rfl ?_); refine goesA (some 10) Try.func250 #[.int .i64 a0] ?_; (with_reducible refine (impl_isPrime.calls a0 true _ A4.out).mono ?_); rintro e w' ⟨rfl, ⟨nd, rfl⟩⟩; refine ⟨_, rfl, ?_⟩))
    go_meet
    case rel => exact ⟨_, (decide (a1 ≥ a0)), eqd, H', ⟨leD⟩, ⟨atB HB⟩⟩
  ·replace c5 := Bool.eq_false_iff.mpr c5
   subst c5
   have H1 : (impl_isRoot.j0 k a0 a1 true) = some (r1, r2) := by rw [if_neg (show ¬ (false = true) by decide)] at H; exact H
   clear H
   have H := H1
   clear H1
   have H' := Aside0.mk H
   clear H
   go_wp2_with (first | ((with_reducible refine gate_callee (f := 250) rfl ?_); refine goesA (some 10) Try.func250 #[.int .i64 a0] ?_; (with_reducible refine (impl_isPrime.calls a0 false _ A4.out).mono ?_); rintro e w' ⟨rfl, ⟨nd, rfl⟩⟩; refine ⟨_, rfl, ?_⟩))
   go_meet
   case rel => exact ⟨_, (true), eqd, H', ⟨leD⟩, ⟨atB HB⟩⟩
 case rest =>
  clear HC3
  try clear c1
  try clear c2
  try clear p2
  try clear c5
  try clear c6
  try clear c6b0
  obtain ⟨kq, x20_2, rfl, HA, HJ2, HB⟩ := hcut
  cases kq with
  | zero => exact absurd HA.out (by simp [impl_isRoot.j0])
  | succ kj2 =>
   have H := HA.out
   clear HA
   simp only [impl_isRoot.j0] at H
   by_cases c7 : x20_2 = true
   ·subst c7
    have H1 : (some (false, false)) = some (r1, r2) := by rw [if_pos rfl] at H; exact H
    clear H
    have H := H1
    clear H1
    simp only [Option.some.injEq, Prod.mk.injEq] at H
    obtain ⟨rfl, rfl⟩ := H
    go_wp2
    go_ret2
    exact ⟨eqr, atB HB⟩
   ·replace c7 := Bool.eq_false_iff.mpr c7
    subst c7
    have H1 : (if 0 ≤ a0 then (if (a0 : Int).toNat ≤ 281474976710656 then ((impl_powers.f kj2 a0 a1).bind fun t623 => (impl_isRoot.l0 kj2 (List.replicate (a0 : Int).toNat false) t623 (t623.length : Int) 0)) else (none)) else (none)) = some (r1, r2) := by rw [if_neg (show ¬ (false = true) by decide)] at H; exact H
    clear H
    have H := H1
    clear H1
    by_cases c8 : 0 ≤ a0
    ·rw [if_pos c8] at H
     have c8b0 := eq_true c8
     have c8b1 : decide (0 ≤ a0) = true := decide_eq_true c8
     clear c8
     by_cases c9 : (a0 : Int).toNat ≤ 281474976710656
     ·rw [if_pos c9] at H
      have c9b0 := eq_true c9
      have c9b1 : decide ((a0 : Int).toNat ≤ 281474976710656) = true := decide_eq_true c9
      clear c9
      obtain ⟨y620, hy620⟩ : ∃ y_ : List Bool, y_ = (List.replicate (a0 : Int).toNat false) := ⟨_, rfl⟩
      replace H : ((impl_powers.f kj2 a0 a1).bind fun t623 => (impl_isRoot.l0 kj2 y620 t623 (t623.length : Int) 0)) = some (r1, r2) := by first | (rw [hy620]; with_reducible exact H) | (have H2_ := (Option.bind_some _ _).symm.trans H; rw [hy620]; with_reducible exact H2_) | (have H2_ := (Option.bind_some _ _).symm.trans H; with_reducible exact H2_) | with_reducible exact H | (rw [hy620]; exact H) | exact H
      have Ny620 := Aside0.mk hy620
      clear hy620
      replace H := Option.bind_eq_some_iff.mp H
      obtain ⟨t623, A100, H⟩ := H
      replace H : (impl_isRoot.l0 kj2 y620 t623 (t623.length : Int) 0) = some (r1, r2) := H
      have A10 := Aside0.mk A100
      clear A100
      have H' := Aside0.mk H
      clear H
      go_wp2_with (first | ((with_reducible refine gate_dst (N := 22) rfl ?_); refine Kd.R_make Kd.bool _ 4 rfl (N := 22) rfl 94 _ _ rfl a0 rfl rfl Try.underlying94 (.bool false) 1 info4 rfl (by decide) (by omega) false (ok := fun _ => True) (okp := fun _ => True) rfl (fun _ hk => hk) trivial (of_decide_eq_true (by first | (with_reducible assumption) | assumption)) (Nat.le_trans (Nat.mul_le_mul_right _ (of_decide_eq_true (by first | (with_reducible assumption) | assumption) : a0.toNat ≤ 281474976710656)) (by omega)) (Below.refl _ _) (Nat.le_refl _) ?_; intro v621 w11 ho12 hb hg_ hnew_; clear hg_ hnew_; (first | rw [← Ny620.out] at ho12 | (simp only [Int.reduceToNat] at ho12; rw [← Ny620.out] at ho12)); have HO622 := lowR ho12 HB; replace HB := upB HB hb; clear hb ho12) | ((with_reducible refine gate_callee (f := 172) rfl ?_); refine goesA (some 25) Try.func172 #[.int .i64 a0, .int .i64 a1] ?_; (with_reducible refine (impl_powers.calls kj2 a0 a1 t623 _ A10.out).mono ?_); rintro e w13 ⟨v624, rfl, ho0, hb⟩; refine ⟨_, rfl, ?_⟩; have HO625 := lowR ho0 HB; replace HO622 := upR HO622 hb; replace HB := upB HB hb; (try clear hb); (try clear hb2); (try clear hk); (try clear hi); (try clear ho0); obtain ⟨Ao14, co14, eo14⟩ := Kd.R_slice HO625.out; subst eo14))
      go_loopg [27] kj2 (fun kq v27 w' => ∃ (x6_2 : List Bool) (x27_2 : Int), v27 = .int .i64 x27_2 ∧ Aside0 (impl_isRoot.l0 kq x6_2 t623 (t623.length : Int) x27_2 = some (r1, r2)) ∧ Aside0 (kq ≤ kj2) ∧ Aside0 (Kd.R Kd.bool 4 w' w.heap.size (fun _ => True) v621 x6_2) ∧ Aside0 (Kd.R (Kd.int .i64) 3 w' w.heap.size (fun _ => True) (.slice Ao14 t623.length co14) t623) ∧ Aside0 (Below w.heap.size w w'))
      case atStart => exact ⟨(y620), (0), eqd, H', ⟨Nat.le_refl _⟩, ⟨atR HO622⟩, ⟨atR HO625⟩, ⟨atB HB⟩⟩
      case round =>
       clear H'
       try clear c1
       try clear c2
       try clear p2
       try clear c5
       try clear c6
       try clear c6b0
       try clear c7
       try clear c8
       try clear c8b0
       try clear c8b1
       try clear c9
       try clear c9b0
       try clear c9b1
       try clear p2
       obtain ⟨x6_2, x27_2, rfl, HA, HK2, HO_6, HO_25, HB⟩ := hrel
       cases gk with
       | zero => exact absurd HA.out (by simp [impl_isRoot.l0])
       | succ k2 =>
        have H := HA.out
        clear HA
        simp only [impl_isRoot.l0] at H
        by_cases c15 : x27_2 < (t623.length : Int)
        ·rw [if_pos c15] at H
         have c15b0 : decide (x27_2 < (t623.length : Int)) = true := decide_eq_true c15
         clear c15
         by_cases c16 : 0 ≤ x27_2
         ·rw [if_pos c16] at H
          have c16b0 : decide (0 ≤ x27_2) = true := decide_eq_true c16
          clear c16
          by_cases c17 : x27_2 < (t623.length : Int)
          ·rw [if_pos c17] at H
           have c17b0 : decide (x27_2 < (t623.length : Int)) = true := decide_eq_true c17
           clear c17
           by_cases c18 : 0 ≤ (rd t623 x27_2)
           ·rw [if_pos c18] at H
            have c18b0 : decide (0 ≤ (rd t623 x27_2)) = true := decide_eq_true c18
            clear c18
            by_cases c19 : (rd t623 x27_2) < (x6_2.length : Int)
            ·rw [if_pos c19] at H
             have c19b0 : decide ((rd t623 x27_2) < (x6_2.length : Int)) = true := decide_eq_true c19
             clear c19
             obtain ⟨bq20, hbq20⟩ : ∃ b_ : Bool, b_ = (rdOf false x6_2 (rd t623 x27_2)) := ⟨_, rfl⟩
             replace H : (if bq20 = true then (some (false, true)) else (impl_isRoot.l0 k2 (x6_2.set ((rd t623 x27_2) : Int).toNat true) t623 (t623.length : Int) (wrap64 (x27_2 + 1)))) = some (r1, r2) := by rw [← hbq20] at H; exact H
             have Nbq20 := Aside0.mk hbq20
             clear hbq20
             by_cases c21 : bq20 = true
             ·subst c21
              have H1 : (some (false, true)) = some (r1, r2) := by rw [if_pos rfl] at H; exact H
              clear H
              have H := H1
              clear H1
              simp only [Option.some.injEq, Prod.mk.injEq] at H
              obtain ⟨rfl, rfl⟩ := H
              have p626 : 0 ≤ (x27_2 : Int) := ofd
              have q626 : x27_2 < (t623.length : Int) := ofd
              obtain ⟨ad626, e626, hx626_0⟩ := Kd.at_int (Kd.R_reads' HO_25.out).2.2 x27_2 p626 q626
              cases e626
              replace p626 := eq_true p626
              replace q626 := eq_true q626
              obtain ⟨Ao22, co22, eo22⟩ := Kd.R_slice HO_6.out
              subst eo22
              have p627 : 0 ≤ ((rd t623 x27_2) : Int) := ofd
              have q627 : (rd t623 x27_2) < (x6_2.length : Int) := ofd
              obtain ⟨ad627, e627, hx627_0⟩ := Kd.at_bool (Kd.R_reads' HO_6.out).2.2 (rd t623 x27_2) p627 q627
              (try rw [← Nbq20.out] at hx627_0)
              cases e627
              replace p627 := eq_true p627
              replace q627 := eq_true q627
              go_wp2
              go_ret2
              exact ⟨eqr, atB HB⟩
             ·replace c21 := Bool.eq_false_iff.mpr c21
              subst c21
              have H1 : (impl_isRoot.l0 k2 (x6_2.set ((rd t623 x27_2) : Int).toNat true) t623 (t623.length : Int) (wrap64 (x27_2 + 1))) = some (r1, r2) := by rw [if_neg (show ¬ (false = true) by decide)] at H; exact H
              clear H
              have H := H1
              clear H1
              obtain ⟨y628, hy628⟩ : ∃ y_ : List Bool, y_ = (x6_2.set ((rd t623 x27_2) : Int).toNat true) := ⟨_, rfl⟩
              replace H : (impl_isRoot.l0 k2 y628 t623 (t623.length : Int) (wrap64 (x27_2 + 1))) = some (r1, r2) := by first | (rw [hy628]; with_reducible exact H) | (have H2_ := (Option.bind_some _ _).symm.trans H; rw [hy628]; with_reducible exact H2_) | (have H2_ := (Option.bind_some _ _).symm.trans H; with_reducible exact H2_) | with_reducible exact H | (rw [hy628]; exact H) | exact H
              have Ny628 := Aside0.mk hy628
              clear hy628
              have H' := Aside0.mk H
              clear H
              have p626 : 0 ≤ (x27_2 : Int) := ofd
              have q626 : x27_2 < (t623.length : Int) := ofd
              obtain ⟨ad626, e626, hx626_0⟩ := Kd.at_int (Kd.R_reads' HO_25.out).2.2 x27_2 p626 q626
              cases e626
              replace p626 := eq_true p626
              replace q626 := eq_true q626
              obtain ⟨Ao24, co24, eo24⟩ := Kd.R_slice HO_6.out
              subst eo24
              have p627 : 0 ≤ ((rd t623 x27_2) : Int) := ofd
              have q627 : (rd t623 x27_2) < (x6_2.length : Int) := ofd
              obtain ⟨ad627, e627, hx627_0⟩ := Kd.at_bool (Kd.R_reads' HO_6.out).2.2 (rd t623 x27_2) p627 q627
              (try rw [← Nbq20.out] at hx627_0)
              cases e627
              replace p627 := eq_true p627
              replace q627 := eq_true q627
              have p23 : 0 ≤ ((rd t623 x27_2) : Int) := ofd
              have q23 : ((rd t623 x27_2) : Int) < ((x6_2.length : Int) : Int) := ofd
              obtain ⟨go23, co23, eo23, gb23, gl23, cl23, HG23⟩ := Kd.R_form HO_6.out (by omega)
              (first | cases eo23 | (injection eo23 with ea_ en_ ec_; (first | subst ea_ | (injection ea_ with ea_; subst ea_)); subst ec_; clear en_))
              have GB23 := Aside0.mk gb23
              have GG23 := Aside0.mk HG23
              clear gb23 gl23 HG23
              (first | simp only [add_plain] at hx627_0 | skip)
              obtain ⟨hx23_0, hf23_0⟩ := Kd.R_celln false HO_6.out ((rd t623 x27_2) : Int) p23 q23
              replace p23 := eq_true p23
              replace q23 := eq_true q23
              have HP25 := Kd.R_putg HO_6.out ((rd t623 x27_2) : Int) true
              go_wp2_with (first | ((with_reducible refine gate_store (t := 4) (p := 37) rfl ?_); refine store_event (t := 4) (p := 37) (v := ?vo_w26) (w1 := (wr.setCell ⟨go23, ((rd t623 x27_2) : Int).toNat, none⟩ (.bool true))) ?hg ?ho ?hn ?hr ?_; (case ho => rfl); (case hg => rfl); (case hn => rfl); (case hr => first | (go_simp; done) | (go_simp; rfl)); intro w26 hw; have hg : wr.grownBy w26 (some go23) := (by rw [hw]; exact HP25.2); have hp_ : Kd.R Kd.bool 4 w26 w.heap.size (fun _ => True) (.slice (some ⟨go23, 0, none⟩) x6_2.length co24) y628 := (by rw [hw, Ny628.out]; exact HP25.1); clear HP25; replace HO_25 := Aside0.mk (Kd.R_over' (v := (.slice (some ⟨go23, 0, none⟩) x6_2.length co24)) (atR HO_25) (Kd.R_typed HO_6.out) (by decide) hg); replace HO_6 := Aside0.mk (hp_); replace HB := Aside0.mk ((by rw [hw]; exact below_set (HB.out) GB23.out : Below w.heap.size w w26)); clear hg hw hp_))
              go_roundg k2
              case measure => have := HJ2.out; have := HK2.out; omega
              case rel => exact ⟨(y628), (wrap64 (x27_2 + 1)), eqd, H', ⟨by have := HJ2.out; have := HK2.out; omega⟩, ⟨atR HO_6⟩, ⟨atR HO_25⟩, ⟨atB HB⟩⟩
            ·rw [if_neg c19] at H
             exact absurd H (by simp)
           ·rw [if_neg c18] at H
            exact absurd H (by simp)
          ·rw [if_neg c17] at H
           exact absurd H (by simp)
         ·rw [if_neg c16] at H
          exact absurd H (by simp)
        ·rw [if_neg c15] at H
         have c15b0 : decide (x27_2 < (t623.length : Int)) = false := decide_eq_false c15
         clear c15
         simp only [Option.some.injEq, Prod.mk.injEq] at H
         obtain ⟨rfl, rfl⟩ := H
         go_wp2
         go_ret2
         exact ⟨eqr, atB HB⟩
     ·rw [if_neg c9] at H
      exact absurd H (by simp)
    ·rw [if_neg c8] at H
     exact absurd H (by simp)

noncomputable def impl_isRoot.J0 (x0 : Int) (x1 : Int) (x20 : Bool) : Option (Bool × Bool) := lim fun k => impl_isRoot.j0 k x0 x1 x20
theorem impl_isRoot.J0_lim (x0 : Int) (x1 : Int) (x20 : Bool) : Lim (fun k => impl_isRoot.j0 k x0 x1 x20) (impl_isRoot.J0 x0 x1 x20) := Lim.of fun k => (impl_isRoot.mono_l k).1 x0 x1 x20
noncomputable def impl_isRoot.L0 (x6 : List Bool) (x25 : List Int) (x26 : Int) (x27 : Int) : Option (Bool × Bool) := lim fun k => impl_isRoot.l0 k x6 x25 x26 x27
theorem impl_isRoot.L0_lim (x6 : List Bool) (x25 : List Int) (x26 : Int) (x27 : Int) : Lim (fun k => impl_isRoot.l0 k x6 x25 x26 x27) (impl_isRoot.L0 x6 x25 x26 x27) := Lim.of fun k => (impl_isRoot.mono_l k).2 x6 x25 x26 x27
noncomputable def impl_isRoot.F (a0 : Int) (a1 : Int) : Option (Bool × Bool) := lim fun k => impl_isRoot.f k a0 a1
theorem impl_isRoot.F_lim (a0 : Int) (a1 : Int) : Lim (fun k => impl_isRoot.f k a0 a1) (impl_isRoot.F a0 a1) := Lim.of fun k => impl_isRoot.mono a0 a1 k
theorem impl_isRoot.J0_eq (x0 : Int) (x1 : Int) (x20 : Bool) : impl_isRoot.J0 x0 x1 x20 = (if x20 = true then (some (false, false)) else (if 0 ≤ x0 then (if (x0 : Int).toNat ≤ 281474976710656 then ((impl_powers.F x0 x1).bind fun t623 => (impl_isRoot.L0 (List.replicate (x0 : Int).toNat false) t623 (t623.length : Int) 0)) else (none)) else (none))) :=
 Lim.step (f := fun k => impl_isRoot.j0 (k + 1) x0 x1 x20) (impl_isRoot.J0_lim x0 x1 x20) (fun _ => rfl) (by
  simp only [impl_isRoot.j0]
  repeat' (first | (with_reducible first | exact Lim.const _ | exact impl_isRoot.L0_lim _ _ _ _ | exact impl_powers.F_lim _ _ | refine Lim.ite ?_ ?_ | refine Lim.bind ?_ (fun _ => ?_))))
theorem impl_isRoot.L0_eq (x6 : List Bool) (x25 : List Int) (x26 : Int) (x27 : Int) : impl_isRoot.L0 x6 x25 x26 x27 = (if x27 < x26 then (if 0 ≤ x27 then (if x27 < (x25.length : Int) then (if 0 ≤ (rd x25 x27) then (if (rd x25 x27) < (x6.length : Int) then (if rdOf false x6 (rd x25 x27) = true then (some (false, true)) else (impl_isRoot.L0 (x6.set ((rd x25 x27) : Int).toNat true) x25 x26 (wrap64 (x27 + 1)))) else (none)) else (none)) else (none)) else (none)) else (some (true, true))) :=
 Lim.step (f := fun k => impl_isRoot.l0 (k + 1) x6 x25 x26 x27) (impl_isRoot.L0_lim x6 x25 x26 x27) (fun _ => rfl) (by
  simp only [impl_isRoot.l0]
  repeat' (first | (with_reducible first | exact Lim.const _ | exact impl_isRoot.L0_lim _ _ _ _ | refine Lim.ite ?_ ?_ | refine Lim.bind ?_ (fun _ => ?_))))
theorem impl_isRoot.F_eq (a0 : Int) (a1 : Int) : impl_isRoot.F a0 a1 = ((impl_isPrime.f a0).bind fun t619 => (if t619 = true then (if a1 < 2 then (impl_isRoot.J0 a0 a1 true) else (impl_isRoot.J0 a0 a1 (decide (a1 ≥ a0)))) else (impl_isRoot.J0 a0 a1 true))) :=
 Lim.unique (impl_isRoot.F_lim a0 a1) (by
  unfold impl_isRoot.f
  repeat' (first | (with_reducible first | exact Lim.const _ | exact impl_isRoot.J0_lim _ _ _ | refine Lim.ite ?_ ?_ | refine Lim.bind ?_ (fun _ => ?_))))

end Go.Proofs.Ytadhfbchilaklaa.Fn
namespace Go.Proofs.Ytadhfbchilaklaa.Fn
open Go.RowKit Go.Proofs.YtadhfbchilaklaaW.PrintWords Go.Proofs.YtadhfbchilaklaaW.PrintLast Go.Proofs.YtadhfbchilaklaaW.PrintMore
attribute [local go_sem] max2_int min2_int max_two min_two max_three min_three max_four min_four   -- for this text's walks alone
set_option linter.unusedVariables false
set_option linter.unusedSimpArgs false

/-! ### impl_LogsDots: function 55 -/
mutual
def impl_LogsDots.j0 : Nat → Int → Int → Int → Bool → Option (List Int × Bool)
 | 0, _, _, _, _ => none
 | k + 1, x0, x1, x2, x46 => if x46 = true then (some (([] : List Int), false)) else ((impl_powers.f k x0 x1).bind fun t687 => ((impl_powers.f k x0 x2).bind fun t690 => (impl_LogsDots.l0 k x0 t687 t690 ([] : List Int) 1)))
def impl_LogsDots.l0 : Nat → Int → List Int → List Int → List Int → Int → Option (List Int × Bool)
 | 0, _, _, _, _, _ => none
 | k + 1, x0, x12, x13, x14, x15 => if x15 ≤ (wrap64 (x0 - 2)) then (impl_LogsDots.l1 k x0 x12 x13 x14 x15 1) else (some (x14, true))
def impl_LogsDots.l1 : Nat → Int → List Int → List Int → List Int → Int → Int → Option (List Int × Bool)
 | 0, _, _, _, _, _, _ => none
 | k + 1, x0, x12, x13, x14, x15, x16 => if x16 ≤ (wrap64 (x0 - 2)) then (if 0 ≤ x15 then (if x15 < (x12.length : Int) then (if 0 ≤ x16 then (if x16 < (x13.length : Int) then (if x0 = 0 then (none) else (if (Int.tmod (wrap64 ((rd x12 x15) + (rd x13 x16))) x0) = 1 then (if x14.length < 17592186044416 then (impl_LogsDots.l1 k x0 x12 x13 (x14 ++ [wrap64 (x16 - 1)]) x15 (wrap64 (x16 + 1))) else (none)) else (impl_LogsDots.l1 k x0 x12 x13 x14 x15 (wrap64 (x16 + 1))))) else (none)) else (none)) else (none)) else (none)) else (impl_LogsDots.l0 k x0 x12 x13 x14 (wrap64 (x15 + 1)))
end
def impl_LogsDots.f (k : Nat) (a0 : Int) (a1 : Int) (a2 : Int) : Option (List Int × Bool) := (impl_isRoot.f k a0 a1).bind fun bt683 => ((impl_isRoot.f k a0 a2).bind fun bt685 => (if bt683.2 = true then (if bt685.2 = true then (if bt683.1 = true then (if bt685.1 = true then (impl_LogsDots.j0 k a0 a1 a2 (decide (a0 < 5))) else (impl_LogsDots.j0 k a0 a1 a2 true)) else (impl_LogsDots.j0 k a0 a1 a2 true)) else (impl_LogsDots.j0 k a0 a1 a2 true)) else (impl_LogsDots.j0 k a0 a1 a2 true)))
theorem impl_LogsDots.mono_l : ∀ k, (∀ y0 y1 y2 y3, LeO (impl_LogsDots.j0 k y0 y1 y2 y3) (impl_LogsDots.j0 (k + 1) y0 y1 y2 y3)) ∧ (∀ y0 y1 y2 y3 y4, LeO (impl_LogsDots.l0 k y0 y1 y2 y3 y4) (impl_LogsDots.l0 (k + 1) y0 y1 y2 y3 y4)) ∧ (∀ y0 y1 y2 y3 y4 y5, LeO (impl_LogsDots.l1 k y0 y1 y2 y3 y4 y5) (impl_LogsDots.l1 (k + 1) y0 y1 y2 y3 y4 y5))
 | 0 => ⟨fun _ _ _ _ r h => by simp [impl_LogsDots.j0] at h, fun _ _ _ _ _ r h => by simp [impl_LogsDots.l0] at h, fun _ _ _ _ _ _ r h => by simp [impl_LogsDots.l1] at h⟩
 | k + 1 => by
  obtain ⟨ih0, ih1, ih2⟩ := impl_LogsDots.mono_l k
  refine ⟨?_, ?_, ?_⟩
  ·intro y0 y1 y2 y3
   unfold impl_LogsDots.j0
   repeat' (first | (with_reducible first | exact ih1 _ _ _ _ _ | exact impl_powers.mono _ _ _ | exact LeO.refl _ | exact LeO.none _ | refine LeO.ite ?_ ?_ | refine LeO.bind ?_ (fun _ => ?_)) | exact ih1 _ _ _ _ _ | exact impl_powers.mono _ _ _ | exact LeO.none _ | refine LeO.ite ?_ ?_ | refine LeO.bind ?_ (fun _ => ?_))
  ·intro y0 y1 y2 y3 y4
   unfold impl_LogsDots.l0
   repeat' (first | (with_reducible first | exact ih2 _ _ _ _ _ _ | exact LeO.refl _ | exact LeO.none _ | refine LeO.ite ?_ ?_ | refine LeO.bind ?_ (fun _ => ?_)) | exact ih2 _ _ _ _ _ _ | exact LeO.none _ | refine LeO.ite ?_ ?_ | refine LeO.bind ?_ (fun _ => ?_))
  ·intro y0 y1 y2 y3 y4 y5
   unfold impl_LogsDots.l1
   repeat' (first | (with_reducible first | exact ih1 _ _ _ _ _ | exact ih2 _ _ _ _ _ _ | exact LeO.refl _ | exact LeO.none _ | refine LeO.ite ?_ ?_ | refine LeO.bind ?_ (fun _ => ?_)) | exact ih1 _ _ _ _ _ | exact ih2 _ _ _ _ _ _ | exact LeO.none _ | refine LeO.ite ?_ ?_ | refine LeO.bind ?_ (fun _ => ?_))
theorem impl_LogsDots.mono : ∀ a0 a1 a2 k, LeO (impl_LogsDots.f k a0 a1 a2) (impl_LogsDots.f (k + 1) a0 a1 a2) := by
 intro a0 a1 a2 k
 obtain ⟨ih0, ih1, ih2⟩ := impl_LogsDots.mono_l k
 unfold impl_LogsDots.f
 repeat' (first | (with_reducible first | exact ih0 _ _ _ _ | exact impl_isRoot.mono _ _ _ | exact LeO.refl _ | exact LeO.none _ | refine LeO.ite ?_ ?_ | refine LeO.bind ?_ (fun _ => ?_)) | exact ih0 _ _ _ _ | exact impl_isRoot.mono _ _ _ | exact LeO.none _ | refine LeO.ite ?_ ?_ | refine LeO.bind ?_ (fun _ => ?_))
set_option maxHeartbeats 8000000 in
set_option maxRecDepth 100000 in
theorem impl_LogsDots.calls (k : Nat) (a0 : Int) (a1 : Int) (a2 : Int) (r1 : List Int) (r2 : Bool) (w : World) (h : impl_LogsDots.f k a0 a1 a2 = some (r1, r2)) :
  Calls Try.prog 55 #[.int .i64 a0, .int .i64 a1, .int .i64 a2] w fun e w' => ∃ v0_ : Value, e = .returned (.tuple #[v0_, .bool r2]) ∧ Kd.R (Kd.int .i64) 3 w' w.heap.size (fun _ => True) v0_ r1 ∧ Below w.heap.size w w' := by
 have HB := Aside0.mk (Below.refl w.heap.size w)
 have H := h
 unfold impl_LogsDots.f at H
 clear h
 replace H := Option.bind_eq_some_iff.mp H
 obtain ⟨⟨t683, t684⟩, A40, H⟩ := H
 replace H : ((impl_isRoot.f k a0 a2).bind fun bt685 => (if t684 = true then (if bt685.2 = true then (if t683 = true then (if bt685.1 = true then (impl_LogsDots.j0 k a0 a1 a2 (decide (a0 < 5))) else (impl_LogsDots.j0 k a0 a1 a2 true)) else (impl_LogsDots.j0 k a0 a1 a2 true)) else (impl_LogsDots.j0 k a0 a1 a2 true)) else (impl_LogsDots.j0 k a0 a1 a2 true))) = some (r1, r2) := H
 have A4 := Aside0.mk A40
 clear A40
 replace H := Option.bind_eq_some_iff.mp H
 obtain ⟨⟨t685, t686⟩, A50, H⟩ := H
 replace H : (if t684 = true then (if t686 = true then (if t683 = true then (if t685 = true then (impl_LogsDots.j0 k a0 a1 a2 (decide (a0 < 5))) else (impl_LogsDots.j0 k a0 a1 a2 true)) else (impl_LogsDots.j0 k a0 a1 a2 true)) else (impl_LogsDots.j0 k a0 a1 a2 true)) else (impl_LogsDots.j0 k a0 a1 a2 true)) = some (r1, r2) := H
 have A5 := Aside0.mk A50
 clear A50
 have HC6 := Aside0.mk H
 clear H
 go_enter Try.func55, Try.ntmps55
 go_upto_region 3 with (first | (go_at_call 171; (with_reducible refine (impl_isRoot.calls k a0 a1 t683 t684 _ A4.out).mono ?_); rintro e w7 ⟨rfl, hb⟩; replace HB := upB HB hb; (try clear hb); (try clear hb2); (try clear hk); (try clear hi)) | (go_at_call 171; (with_reducible refine (impl_isRoot.calls k a0 a2 t685 t686 _ A5.out).mono ?_); rintro e w8 ⟨rfl, hb⟩; replace HB := upB HB hb; (try clear hb); (try clear hb2); (try clear hk); (try clear hi)))
 repeat (go_quiet (first | (go_at_call 171; (with_reducible refine (impl_isRoot.calls k a0 a1 t683 t684 _ A4.out).mono ?_); rintro e w7 ⟨rfl, hb⟩; replace HB := upB HB hb; (try clear hb); (try clear hb2); (try clear hk); (try clear hi)) | (go_at_call 171; (with_reducible refine (impl_isRoot.calls k a0 a2 t685 t686 _ A5.out).mono ?_); rintro e w8 ⟨rfl, hb⟩; replace HB := upB HB hb; (try clear hb); (try clear hb2); (try clear hk); (try clear hi))); go_upto_region 3 with (first | (go_at_call 171; (with_reducible refine (impl_isRoot.calls k a0 a1 t683 t684 _ A4.out).mono ?_); rintro e w7 ⟨rfl, hb⟩; replace HB := upB HB hb; (try clear hb); (try clear hb2); (try clear hk); (try clear hi)) | (go_at_call 171; (with_reducible refine (impl_isRoot.calls k a0 a2 t685 t686 _ A5.out).mono ?_); rintro e w8 ⟨rfl, hb⟩; replace HB := upB HB hb; (try clear hb); (try clear hb2); (try clear hk); (try clear hi))))
 (try simp only [Act.put, List.setIfInBounds_toArray, List.set_cons_zero, List.set_cons_succ])
 go_cut [46] (fun v46 wc => ∃ (kq : Nat) (x46_5 : Bool), v46 = .bool x46_5 ∧ Aside0 (impl_LogsDots.j0 kq a0 a1 a2 x46_5 = some (r1, r2)) ∧ Aside0 (kq ≤ k) ∧ Aside0 (Below w.heap.size w wc))
 case first =>
  have H := HC6.out
  clear HC6
  by_cases c9 : t684 = true
  ·subst c9
   have H1 : (if t686 = true then (if t683 = true then (if t685 = true then (impl_LogsDots.j0 k a0 a1 a2 (decide (a0 < 5))) else (impl_LogsDots.j0 k a0 a1 a2 true)) else (impl_LogsDots.j0 k a0 a1 a2 true)) else (impl_LogsDots.j0 k a0 a1 a2 true)) = some (r1, r2) := by rw [if_pos rfl] at H; exact H
   clear H
   have H := H1
   clear H1
   by_cases c10 : t686 = true
   ·subst c10
    have H1 : (if t683 = true then (if t685 = true then (impl_LogsDots.j0 k a0 a1 a2 (decide (a0 < 5))) else (impl_LogsDots.j0 k a0 a1 a2 true)) else (impl_LogsDots.j0 k a0 a1 a2 true)) = some (r1, r2) := by rw [if_pos rfl] at H; exact H
    clear H
    have H := H1
    clear H1
    by_cases c11 : t683 = true
    ·subst c11
     have H1 : (if t685 = true then (impl_LogsDots.j0 k a0 a1 a2 (decide (a0 < 5))) else (impl_LogsDots.j0 k a0 a1 a2 true)) = some (r1, r2) := by rw [if_pos rfl] at H; exact H
     clear H
     have H := H1
     clear H1
     by_cases c12 : t685 = true
     ·subst c12
      have H1 : (impl_LogsDots.j0 k a0 a1 a2 (decide (a0 < 5))) = some (r1, r2) := by rw [if_pos rfl] at H; exact H
      clear H
      have H := H1
      clear H1
      have H' := Aside0.mk H
      clear H
      go_wp2
      repeat (go_quiet (fail); try go_wp2)
      go_meet
      case rel => exact ⟨_, (decide (a0 < 5)), eqd, H', ⟨leD⟩, ⟨atB HB⟩⟩
     ·replace c12 := Bool.eq_false_iff.mpr c12
      subst c12
      have H1 : (impl_LogsDots.j0 k a0 a1 a2 true) = some (r1, r2) := by rw [if_neg (show ¬ (false = true) by decide)] at H; exact H
      clear H
      have H := H1
      clear H1
      have H' := Aside0.mk H
      clear H
      go_wp2
      repeat (go_quiet (fail); try go_wp2)
      go_meet
      case rel => exact ⟨_, (true), eqd, H', ⟨leD⟩, ⟨atB HB⟩⟩
    ·replace c11 := Bool.eq_false_iff.mpr c11
     subst c11
     have H1 : (impl_LogsDots.j0 k a0 a1 a2 true) = some (r1, r2) := by rw [if_neg (show ¬ (false = true) by decide)] at H; exact H
     clear H
     have H := H1
     clear H1
     have H' := Aside0.mk H
     clear H
     go_wp2
     repeat (go_quiet (fail); try go_wp2)
     go_meet
     case rel => exact ⟨_, (true), eqd, H', ⟨leD⟩, ⟨atB HB⟩⟩
   ·replace c10 := Bool.eq_false_iff.mpr c10
    subst c10
    have H1 : (impl_LogsDots.j0 k a0 a1 a2 true) = some (r1, r2) := by rw [if_neg (show ¬ (false = true) by decide)] at H; exact H
    clear H
    have H := H1
    clear H1
    have H' := Aside0.mk H
    clear H
    go_wp2
    repeat (go_quiet (fail); try go_wp2)
    go_meet
    case rel => exact ⟨_, (true), eqd, H', ⟨leD⟩, ⟨atB HB⟩⟩
  ·replace c9 := Bool.eq_false_iff.mpr c9
   subst c9
   have H1 : (impl_LogsDots.j0 k a0 a1 a2 true) = some (r1, r2) := by rw [if_neg (show ¬ (false = true) by decide)] at H; exact H
   clear H
   have H := H1
   clear H1
   have H' := Aside0.mk H
   clear H
   go_wp2
   repeat (go_quiet (fail); try go_wp2)
   go_meet
   case rel => exact ⟨_, (true), eqd, H', ⟨leD⟩, ⟨atB HB⟩⟩
 case rest =>
  clear HC6
  try clear c1
  try clear p2
  try clear c5
  try clear c9
  try clear c10
  try clear c11
  try clear c12
  obtain ⟨kq, x46_5, rfl, HA, HJ5, HB⟩ := hcut
  cases kq with
  | zero => exact absurd HA.out (by simp [impl_LogsDots.j0])
  | succ kj5 =>
   have H := HA.out
   clear HA
   simp only [impl_LogsDots.j0] at H
   by_cases c13 : x46_5 = true
   ·subst c13
    have H1 : (some (([] : List Int), false)) = some (r1, r2) := by rw [if_pos rfl] at H; exact H
    clear H
    have H := H1
    clear H1
    simp only [Option.some.injEq, Prod.mk.injEq] at H
    obtain ⟨rfl, rfl⟩ := H
    go_wp2
    repeat (go_quiet (fail); try go_wp2)
    go_ret2
    exact ⟨_, eqr, by first | exact Kd.R_nil _ _ _ _ _ | exact Kd.N_nil _ _ _ _ _ | exact Kd.V_nil _ _ _ _ _ | exact Kd.Q_nil _ _ _ _ _ | exact Kd.S_nil _ _ _ _ _, atB HB⟩
   ·replace c13 := Bool.eq_false_iff.mpr c13
    subst c13
    have H1 : ((impl_powers.f kj5 a0 a1).bind fun t687 => ((impl_powers.f kj5 a0 a2).bind fun t690 => (impl_LogsDots.l0 kj5 a0 t687 t690 ([] : List Int) 1))) = some (r1, r2) := by rw [if_neg (show ¬ (false = true) by decide)] at H; exact H
    clear H
    have H := H1
    clear H1
    replace H := Option.bind_eq_some_iff.mp H
    obtain ⟨t687, A140, H⟩ := H
    replace H : ((impl_powers.f kj5 a0 a2).bind fun t690 => (impl_LogsDots.l0 kj5 a0 t687 t690 ([] : List Int) 1)) = some (r1, r2) := H
    have A14 := Aside0.mk A140
    clear A140
    replace H := Option.bind_eq_some_iff.mp H
    obtain ⟨t690, A150, H⟩ := H
    replace H : (impl_LogsDots.l0 kj5 a0 t687 t690 ([] : List Int) 1) = some (r1, r2) := H
    have A15 := Aside0.mk A150
    clear A150
    have H' := Aside0.mk H
    clear H
    go_wp2_with (first | (go_at_call 172; (with_reducible refine (impl_powers.calls kj5 a0 a1 t687 _ A14.out).mono ?_); rintro e w16 ⟨v688, rfl, ho0, hb⟩; have HO689 := lowR ho0 HB; replace HB := upB HB hb; (try clear hb); (try clear hb2); (try clear hk); (try clear hi); (try clear ho0)) | (go_at_call 172; (with_reducible refine (impl_powers.calls kj5 a0 a2 t690 _ A15.out).mono ?_); rintro e w17 ⟨v691, rfl, ho0, hb⟩; have HO692 := Aside0.mk (Kd.R_lower (Kd.R_new' ho0 (ltR HO689)) (szB HB)); replace HO689 := eldRR HO689 ho0 hb; replace HB := upB HB hb; (try clear hb); (try clear hb2); (try clear hk); (try clear hi); (try clear ho0)))
    repeat (go_quiet (first | (go_at_call 172; (with_reducible refine (impl_powers.calls kj5 a0 a1 t687 _ A14.out).mono ?_); rintro e w16 ⟨v688, rfl, ho0, hb⟩; have HO689 := lowR ho0 HB; replace HB := upB HB hb; (try clear hb); (try clear hb2); (try clear hk); (try clear hi); (try clear ho0)) | (go_at_call 172; (with_reducible refine (impl_powers.calls kj5 a0 a2 t690 _ A15.out).mono ?_); rintro e w17 ⟨v691, rfl, ho0, hb⟩; have HO692 := Aside0.mk (Kd.R_lower (Kd.R_new' ho0 (ltR HO689)) (szB HB)); replace HO689 := eldRR HO689 ho0 hb; replace HB := upB HB hb; (try clear hb); (try clear hb2); (try clear hk); (try clear hi); (try clear ho0))); try go_wp2_with (first | (go_at_call 172; (with_reducible refine (impl_powers.calls kj5 a0 a1 t687 _ A14.out).mono ?_); rintro e w16 ⟨v688, rfl, ho0, hb⟩; have HO689 := lowR ho0 HB; replace HB := upB HB hb; (try clear hb); (try clear hb2); (try clear hk); (try clear hi); (try clear ho0)) | (go_at_call 172; (with_reducible refine (impl_powers.calls kj5 a0 a2 t690 _ A15.out).mono ?_); rintro e w17 ⟨v691, rfl, ho0, hb⟩; have HO692 := Aside0.mk (Kd.R_lower (Kd.R_new' ho0 (ltR HO689)) (szB HB)); replace HO689 := eldRR HO689 ho0 hb; replace HB := upB HB hb; (try clear hb); (try clear hb2); (try clear hk); (try clear hi); (try clear ho0))))
    go_loopg [14, 15] kj5 (fun kq v14 v15 w' => ∃ (x14_2 : List Int) (x15_2 : Int), v15 = .int .i64 x15_2 ∧ Aside0 (impl_LogsDots.l0 kq a0 t687 t690 x14_2 x15_2 = some (r1, r2)) ∧ Aside0 (kq ≤ kj5) ∧ Aside0 (Kd.R (Kd.int .i64) 3 w' w.heap.size (fun k_ => some k_ ≠ (v691 : Value).ownBlock ∧ some k_ ≠ (v14 : Value).ownBlock) v688 t687) ∧ Aside0 (Kd.R (Kd.int .i64) 3 w' w.heap.size (fun k_ => some k_ ≠ (v688 : Value).ownBlock ∧ some k_ ≠ (v14 : Value).ownBlock) v691 t690) ∧ Aside0 (Kd.R (Kd.int .i64) 3 w' w.heap.size (fun k_ => some k_ ≠ (v688 : Value).ownBlock ∧ some k_ ≠ (v691 : Value).ownBlock) v14 x14_2) ∧ Aside0 (Below w.heap.size w w'))
    case atStart => exact ⟨(([] : List Int)), (1), eqd, H', ⟨Nat.le_refl _⟩, ⟨by (with_reducible repeat (first | apply Kd.R_alloc | apply Kd.R_drewN | apply Kd.R_drew)); exact Kd.R_mono HO689.out (fun _ hk => ⟨hk.2, (by simp [Value.ownBlock])⟩)⟩, ⟨by (with_reducible repeat (first | apply Kd.R_alloc | apply Kd.R_drewN | apply Kd.R_drew)); exact Kd.R_mono HO692.out (fun _ hk => ⟨hk.2, (by simp [Value.ownBlock])⟩)⟩, ⟨by first | exact Kd.R_nil _ _ _ _ _ | exact Kd.N_nil _ _ _ _ _ | exact Kd.V_nil _ _ _ _ _ | exact Kd.Q_nil _ _ _ _ _ | exact Kd.S_nil _ _ _ _ _⟩, ⟨atB HB⟩⟩
    case round =>
     clear H'
     try clear c1
     try clear p2
     try clear c5
     try clear c9
     try clear c10
     try clear c11
     try clear c12
     try clear c13
     try clear p2
     obtain ⟨x14_2, x15_2, rfl, HA, HK2, HO_12, HO_13, HO_14, HB⟩ := hrel
     cases gk with
     | zero => exact absurd HA.out (by simp [impl_LogsDots.l0])
     | succ k2 =>
      have H := HA.out
      clear HA
      simp only [impl_LogsDots.l0] at H
      by_cases c18 : x15_2 ≤ (wrap64 (a0 - 2))
      ·rw [if_pos c18] at H
       have c18b0 : decide (x15_2 ≤ (wrap64 (a0 - 2))) = true := decide_eq_true c18
       clear c18
       have H' := Aside0.mk H
       clear H
       go_wp2
       repeat (go_quiet (fail); try go_wp2)
       go_loopg [14, 16] k2 (fun kq v14 v16 w' => ∃ (x14_3 : List Int) (x16_3 : Int), v16 = .int .i64 x16_3 ∧ Aside0 (impl_LogsDots.l1 kq a0 t687 t690 x14_3 x15_2 x16_3 = some (r1, r2)) ∧ Aside0 (kq ≤ k2) ∧ Aside0 (Kd.R (Kd.int .i64) 3 w' w.heap.size (fun k_ => some k_ ≠ (v691 : Value).ownBlock ∧ some k_ ≠ (v14 : Value).ownBlock) v688 t687) ∧ Aside0 (Kd.R (Kd.int .i64) 3 w' w.heap.size (fun k_ => some k_ ≠ (v688 : Value).ownBlock ∧ some k_ ≠ (v14 : Value).ownBlock) v691 t690) ∧ Aside0 (Kd.R (Kd.int .i64) 3 w' w.heap.size (fun k_ => some k_ ≠ (v688 : Value).ownBlock ∧ some k_ ≠ (v691 : Value).ownBlock) v14 x14_3) ∧ Aside0 (Below w.heap.size w w'))
       case atStart => exact ⟨(x14_2), (1), eqd, H', ⟨Nat.le_refl _⟩, ⟨atR HO_12⟩, ⟨atR HO_13⟩, ⟨atR HO_14⟩, ⟨atB HB⟩⟩
       case round =>
        clear H'
        try clear c1
        try clear p2
        try clear c5
        try clear p6
        try clear c9
        try clear c10
        try clear c11
        try clear c12
        try clear c13
        try clear c18
        try clear c18b0
        try clear p2
        obtain ⟨x14_3, x16_3, rfl, HA, HK3, HO_12, HO_13, HO_14, HB⟩ := hrel
        cases gk with
        | zero => exact absurd HA.out (by simp [impl_LogsDots.l1])
        | succ k3 =>
         have H := HA.out
         clear HA
         simp only [impl_LogsDots.l1] at H
         by_cases c19 : x16_3 ≤ (wrap64 (a0 - 2))
         ·rw [if_pos c19] at H
          have c19b0 : decide (x16_3 ≤ (wrap64 (a0 - 2))) = true := decide_eq_true c19
          clear c19
          by_cases c20 : 0 ≤ x15_2
          ·rw [if_pos c20] at H
           have c20b0 : decide (0 ≤ x15_2) = true := decide_eq_true c20
           clear c20
           by_cases c21 : x15_2 < (t687.length : Int)
           ·rw [if_pos c21] at H
            have c21b0 : decide (x15_2 < (t687.length : Int)) = true := decide_eq_true c21
            clear c21
            by_cases c22 : 0 ≤ x16_3
            ·rw [if_pos c22] at H
             have c22b0 : decide (0 ≤ x16_3) = true := decide_eq_true c22
             clear c22
             by_cases c23 : x16_3 < (t690.length : Int)
             ·rw [if_pos c23] at H
              have c23b0 : decide (x16_3 < (t690.length : Int)) = true := decide_eq_true c23
              clear c23
              by_cases c24 : a0 = 0
              ·rw [if_pos c24] at H
               exact absurd H (by simp)
              ·rw [if_neg c24] at H
               have c24b0 : (a0 == 0) = false := beq_eq_false_iff_ne.mpr c24
               have c24b1 : (a0 != 0) = true := bne_iff_ne.mpr c24
               by_cases c25 : (Int.tmod (wrap64 ((rd t687 x15_2) + (rd t690 x16_3))) a0) = 1
               ·rw [if_pos c25] at H
                have c25b0 : ((Int.tmod (wrap64 ((rd t687 x15_2) + (rd t690 x16_3))) a0) == 1) = true := beq_iff_eq.mpr c25
                have c25b1 : ((Int.tmod (wrap64 ((rd t687 x15_2) + (rd t690 x16_3))) a0) != 1) = false := bne_eq_false_iff_eq.mpr c25
                clear c25
                by_cases c26 : x14_3.length < 17592186044416
                ·rw [if_pos c26] at H
                 have LMc26 := Aside0.mk c26
                 clear c26
                 obtain ⟨y695, hy695⟩ : ∃ y_ : List Int, y_ = (x14_3 ++ [wrap64 (x16_3 - 1)]) := ⟨_, rfl⟩
                 replace H : (impl_LogsDots.l1 k3 a0 t687 t690 y695 x15_2 (wrap64 (x16_3 + 1))) = some (r1, r2) := by first | (rw [hy695]; with_reducible exact H) | (have H2_ := (Option.bind_some _ _).symm.trans H; rw [hy695]; with_reducible exact H2_) | (have H2_ := (Option.bind_some _ _).symm.trans H; with_reducible exact H2_) | with_reducible exact H | (rw [hy695]; exact H) | exact H
                 have Ny695 := Aside0.mk hy695
                 clear hy695
                 have H' := Aside0.mk H
                 clear H
                 obtain ⟨Ao27, co27, eo27⟩ := Kd.R_slice HO_12.out
                 subst eo27
                 have p693 : 0 ≤ (x15_2 : Int) := ofd
                 have q693 : x15_2 < (t687.length : Int) := ofd
                 obtain ⟨ad693, e693, hx693_0⟩ := Kd.at_int (Kd.R_reads' HO_12.out).2.2 x15_2 p693 q693
                 cases e693
                 replace p693 := eq_true p693
                 replace q693 := eq_true q693
                 obtain ⟨Ao28, co28, eo28⟩ := Kd.R_slice HO_13.out
                 subst eo28
                 have p694 : 0 ≤ (x16_3 : Int) := ofd
                 have q694 : x16_3 < (t690.length : Int) := ofd
                 obtain ⟨ad694, e694, hx694_0⟩ := Kd.at_int (Kd.R_reads' HO_13.out).2.2 x16_3 p694 q694
                 cases e694
                 replace p694 := eq_true p694
                 replace q694 := eq_true q694
                 go_wp2_with (first | ((with_reducible refine gate_builtin (b := .append) (xs := #[.tmp 77, .tmp 80]) rfl ?_); at_builtin; refine Kd.R_append (Kd.int .i64) (w0 := w) w.heap.size rfl (.tmp 77) (.tmp 80) 24 3 (.int .i64 0) 8 rfl Try.underlying24 info3 rfl (by decide) (by omega) u14 x14_3 (wrap64 (x16_3 - 1)) [.int .i64 (wrap64 (x16_3 - 1))] (fun k_ => some k_ ≠ (.slice (some ad693) t687.length co27 : Value).ownBlock ∧ some k_ ≠ (.slice (some ad694) t690.length co28 : Value).ownBlock) (fun _ => False) rfl rfl ?aP (fun _ hk => hk.elim) ?aF ?aO ?aB ?aS ?aL ?_; (case aP => exact rfl); (case aB => exact (atB HB)); (case aF => exact (fun k_ hk => ⟨Kd.fresh' (ltR HO_12) k_ hk, Kd.fresh' (ltR HO_13) k_ hk⟩)); (case aO => exact (atR HO_14)); (case aS => exact (szB HB)); (case aL => have := LMc26.out; omega); intro v696 w29 ho hb hg hat; rw [← Ny695.out] at ho; have HO697 := Aside0.mk (ho); replace HO_12 := Aside0.mk (Kd.R_after (ok := (fun k_ => some k_ ≠ (.slice (some ad694) t690.length co28 : Value).ownBlock)) (atR HO_12) hg hat); replace HO_13 := Aside0.mk (Kd.R_after (ok := (fun k_ => some k_ ≠ (.slice (some ad693) t687.length co27 : Value).ownBlock)) (atR HO_13) hg hat); replace HB := Aside0.mk (hb); clear HO_14; clear ho hb hg hat))
                 repeat (go_quiet (first | ((with_reducible refine gate_builtin (b := .append) (xs := #[.tmp 77, .tmp 80]) rfl ?_); at_builtin; refine Kd.R_append (Kd.int .i64) (w0 := w) w.heap.size rfl (.tmp 77) (.tmp 80) 24 3 (.int .i64 0) 8 rfl Try.underlying24 info3 rfl (by decide) (by omega) u14 x14_3 (wrap64 (x16_3 - 1)) [.int .i64 (wrap64 (x16_3 - 1))] (fun k_ => some k_ ≠ (.slice (some ad693) t687.length co27 : Value).ownBlock ∧ some k_ ≠ (.slice (some ad694) t690.length co28 : Value).ownBlock) (fun _ => False) rfl rfl ?aP (fun _ hk => hk.elim) ?aF ?aO ?aB ?aS ?aL ?_; (case aP => exact rfl); (case aB => exact (atB HB)); (case aF => exact (fun k_ hk => ⟨Kd.fresh' (ltR HO_12) k_ hk, Kd.fresh' (ltR HO_13) k_ hk⟩)); (case aO => exact (atR HO_14)); (case aS => exact (szB HB)); (case aL => have := LMc26.out; omega); intro v696 w29 ho hb hg hat; rw [← Ny695.out] at ho; have HO697 := Aside0.mk (ho); replace HO_12 := Aside0.mk (Kd.R_after (ok := (fun k_ => some k_ ≠ (.slice (some ad694) t690.length co28 : Value).ownBlock)) (atR HO_12) hg hat); replace HO_13 := Aside0.mk (Kd.R_after (ok := (fun k_ => some k_ ≠ (.slice (some ad693) t687.length co27 : Value).ownBlock)) (atR HO_13) hg hat); replace HB := Aside0.mk (hb); clear HO_14; clear ho hb hg hat)); try go_wp2_with (first | ((with_reducible refine gate_builtin (b := .append) (xs := #[.tmp 77, .tmp 80]) rfl ?_); at_builtin; refine Kd.R_append (Kd.int .i64) (w0 := w) w.heap.size rfl (.tmp 77) (.tmp 80) 24 3 (.int .i64 0) 8 rfl Try.underlying24 info3 rfl (by decide) (by omega) u14 x14_3 (wrap64 (x16_3 - 1)) [.int .i64 (wrap64 (x16_3 - 1))] (fun k_ => some k_ ≠ (.slice (some ad693) t687.length co27 : Value).ownBlock ∧ some k_ ≠ (.slice (some ad694) t690.length co28 : Value).ownBlock) (fun _ => False) rfl rfl ?aP (fun _ hk => hk.elim) ?aF ?aO ?aB ?aS ?aL ?_; (case aP => exact rfl); (case aB => exact (atB HB)); (case aF => exact (fun k_ hk => ⟨Kd.fresh' (ltR HO_12) k_ hk, Kd.fresh' (ltR HO_13) k_ hk⟩)); (case aO => exact (atR HO_14)); (case aS => exact (szB HB)); (case aL => have := LMc26.out; omega); intro v696 w29 ho hb hg hat; rw [← Ny695.out] at ho; have HO697 := Aside0.mk (ho); replace HO_12 := Aside0.mk (Kd.R_after (ok := (fun k_ => some k_ ≠ (.slice (some ad694) t690.length co28 : Value).ownBlock)) (atR HO_12) hg hat); replace HO_13 := Aside0.mk (Kd.R_after (ok := (fun k_ => some k_ ≠ (.slice (some ad693) t687.length co27 : Value).ownBlock)) (atR HO_13) hg hat); replace HB := Aside0.mk (hb); clear HO_14; clear ho hb hg hat)))
                 go_roundg k3
                 case measure => have := HJ5.out; have := HK2.out; have := HK3.out; omega
                 case rel => exact ⟨(y695), (wrap64 (x16_3 + 1)), eqd, H', ⟨by have := HJ5.out; have := HK2.out; have := HK3.out; omega⟩, ⟨atR HO_12⟩, ⟨atR HO_13⟩, ⟨atR HO697⟩, ⟨atB HB⟩⟩
                ·rw [if_neg c26] at H
                 exact absurd H (by simp)
               ·rw [if_neg c25] at H
                have c25b0 : ((Int.tmod (wrap64 ((rd t687 x15_2) + (rd t690 x16_3))) a0) == 1) = false := beq_eq_false_iff_ne.mpr c25
                have c25b1 : ((Int.tmod (wrap64 ((rd t687 x15_2) + (rd t690 x16_3))) a0) != 1) = true := bne_iff_ne.mpr c25
                have H' := Aside0.mk H
                clear H
                obtain ⟨Ao30, co30, eo30⟩ := Kd.R_slice HO_12.out
                subst eo30
                have p693 : 0 ≤ (x15_2 : Int) := ofd
                have q693 : x15_2 < (t687.length : Int) := ofd
                obtain ⟨ad693, e693, hx693_0⟩ := Kd.at_int (Kd.R_reads' HO_12.out).2.2 x15_2 p693 q693
                cases e693
                replace p693 := eq_true p693
                replace q693 := eq_true q693
                obtain ⟨Ao31, co31, eo31⟩ := Kd.R_slice HO_13.out
                subst eo31
                have p694 : 0 ≤ (x16_3 : Int) := ofd
                have q694 : x16_3 < (t690.length : Int) := ofd
                obtain ⟨ad694, e694, hx694_0⟩ := Kd.at_int (Kd.R_reads' HO_13.out).2.2 x16_3 p694 q694
                cases e694
                replace p694 := eq_true p694
                replace q694 := eq_true q694
                go_wp2
                repeat (go_quiet (fail); try go_wp2)
                go_roundg k3
                case measure => have := HJ5.out; have := HK2.out; have := HK3.out; omega
                case rel => exact ⟨(x14_3), (wrap64 (x16_3 + 1)), eqd, H', ⟨by have := HJ5.out; have := HK2.out; have := HK3.out; omega⟩, ⟨atR HO_12⟩, ⟨atR HO_13⟩, ⟨atR HO_14⟩, ⟨atB HB⟩⟩
             ·rw [if_neg c23] at H
              exact absurd H (by simp)
            ·rw [if_neg c22] at H
             exact absurd H (by simp)
           ·rw [if_neg c21] at H
            exact absurd H (by simp)
          ·rw [if_neg c20] at H
           exact absurd H (by simp)
         ·rw [if_neg c19] at H
          have c19b0 : decide (x16_3 ≤ (wrap64 (a0 - 2))) = false := decide_eq_false c19
          clear c19
          have H' := Aside0.mk H
          clear H
          go_wp2
          repeat (go_quiet (fail); try go_wp2)
          go_roundg k3
          case measure => have := HJ5.out; have := HK2.out; have := HK3.out; omega
          case rel => exact ⟨(x14_3), (wrap64 (x15_2 + 1)), eqd, H', ⟨by have := HJ5.out; have := HK2.out; have := HK3.out; omega⟩, ⟨atR HO_12⟩, ⟨atR HO_13⟩, ⟨atR HO_14⟩, ⟨atB HB⟩⟩
      ·rw [if_neg c18] at H
       have c18b0 : decide (x15_2 ≤ (wrap64 (a0 - 2))) = false := decide_eq_false c18
       clear c18
       simp only [Option.some.injEq, Prod.mk.injEq] at H
       obtain ⟨rfl, rfl⟩ := H
       go_wp2
       repeat (go_quiet (fail); try go_wp2)
       go_ret2
       exact ⟨_, eqr, by (with_reducible repeat (first | apply Kd.R_alloc | apply Kd.R_drewN | apply Kd.R_drew)); exact Kd.R_mono HO_14.out (fun _ hk => trivial), atB HB⟩

noncomputable def impl_LogsDots.J0 (x0 : Int) (x1 : Int) (x2 : Int) (x46 : Bool) : Option (List Int × Bool) := lim fun k => impl_LogsDots.j0 k x0 x1 x2 x46
theorem impl_LogsDots.J0_lim (x0 : Int) (x1 : Int) (x2 : Int) (x46 : Bool) : Lim (fun k => impl_LogsDots.j0 k x0 x1 x2 x46) (impl_LogsDots.J0 x0 x1 x2 x46) := Lim.of fun k => (impl_LogsDots.mono_l k).1 x0 x1 x2 x46
noncomputable def impl_LogsDots.L0 (x0 : Int) (x12 : List Int) (x13 : List Int) (x14 : List Int) (x15 : Int) : Option (List Int × Bool) := lim fun k => impl_LogsDots.l0 k x0 x12 x13 x14 x15
theorem impl_LogsDots.L0_lim (x0 : Int) (x12 : List Int) (x13 : List Int) (x14 : List Int) (x15 : Int) : Lim (fun k => impl_LogsDots.l0 k x0 x12 x13 x14 x15) (impl_LogsDots.L0 x0 x12 x13 x14 x15) := Lim.of fun k => (impl_LogsDots.mono_l k).2.1 x0 x12 x13 x14 x15
noncomputable def impl_LogsDots.L1 (x0 : Int) (x12 : List Int) (x13 : List Int) (x14 : List Int) (x15 : Int) (x16 : Int) : Option (List Int × Bool) := lim fun k => impl_LogsDots.l1 k x0 x12 x13 x14 x15 x16
theorem impl_LogsDots.L1_lim (x0 : Int) (x12 : List Int) (x13 : List Int) (x14 : List Int) (x15 : Int) (x16 : Int) : Lim (fun k => impl_LogsDots.l1 k x0 x12 x13 x14 x15 x16) (impl_LogsDots.L1 x0 x12 x13 x14 x15 x16) := Lim.of fun k => (impl_LogsDots.mono_l k).2.2 x0 x12 x13 x14 x15 x16
noncomputable def impl_LogsDots.F (a0 : Int) (a1 : Int) (a2 : Int) : Option (List Int × Bool) := lim fun k => impl_LogsDots.f k a0 a1 a2
theorem impl_LogsDots.F_lim (a0 : Int) (a1 : Int) (a2 : Int) : Lim (fun k => impl_LogsDots.f k a0 a1 a2) (impl_LogsDots.F a0 a1 a2) := Lim.of fun k => impl_LogsDots.mono a0 a1 a2 k
theorem impl_LogsDots.J0_eq (x0 : Int) (x1 : Int) (x2 : Int) (x46 : Bool) : impl_LogsDots.J0 x0 x1 x2 x46 = (if x46 = true then (some (([] : List Int), false)) else ((impl_powers.F x0 x1).bind fun t687 => ((impl_powers.F x0 x2).bind fun t690 => (impl_LogsDots.L0 x0 t687 t690 ([] : List Int) 1)))) :=
 Lim.step (f := fun k => impl_LogsDots.j0 (k + 1) x0 x1 x2 x46) (impl_LogsDots.J0_lim x0 x1 x2 x46) (fun _ => rfl) (by
  simp only [impl_LogsDots.j0]
  repeat' (first | (with_reducible first | exact Lim.const _ | exact impl_LogsDots.L0_lim _ _ _ _ _ | exact impl_powers.F_lim _ _ | refine Lim.ite ?_ ?_ | refine Lim.bind ?_ (fun _ => ?_))))
theorem impl_LogsDots.L0_eq (x0 : Int) (x12 : List Int) (x13 : List Int) (x14 : List Int) (x15 : Int) : impl_LogsDots.L0 x0 x12 x13 x14 x15 = (if x15 ≤ (wrap64 (x0 - 2)) then (impl_LogsDots.L1 x0 x12 x13 x14 x15 1) else (some (x14, true))) :=
 Lim.step (f := fun k => impl_LogsDots.l0 (k + 1) x0 x12 x13 x14 x15) (impl_LogsDots.L0_lim x0 x12 x13 x14 x15) (fun _ => rfl) (by
  simp only [impl_LogsDots.l0]
  repeat' (first | (with_reducible first | exact Lim.const _ | exact impl_LogsDots.L1_lim _ _ _ _ _ _ | refine Lim.ite ?_ ?_ | refine Lim.bind ?_ (fun _ => ?_))))
theorem impl_LogsDots.L1_eq (x0 : Int) (x12 : List Int) (x13 : List Int) (x14 : List Int) (x15 : Int) (x16 : Int) : impl_LogsDots.L1 x0 x12 x13 x14 x15 x16 = (if x16 ≤ (wrap64 (x0 - 2)) then (if 0 ≤ x15 then (if x15 < (x12.length : Int) then (if 0 ≤ x16 then (if x16 < (x13.length : Int) then (if x0 = 0 then (none) else (if (Int.tmod (wrap64 ((rd x12 x15) + (rd x13 x16))) x0) = 1 then (if x14.length < 17592186044416 then (impl_LogsDots.L1 x0 x12 x13 (x14 ++ [wrap64 (x16 - 1)]) x15 (wrap64 (x16 + 1))) else (none)) else (impl_LogsDots.L1 x0 x12 x13 x14 x15 (wrap64 (x16 + 1))))) else (none)) else (none)) else (none)) else (none)) else (impl_LogsDots.L0 x0 x12 x13 x14 (wrap64 (x15 + 1)))) :=
 Lim.step (f := fun k => impl_LogsDots.l1 (k + 1) x0 x12 x13 x14 x15 x16) (impl_LogsDots.L1_lim x0 x12 x13 x14 x15 x16) (fun _ => rfl) (by
  simp only [impl_LogsDots.l1]
  repeat' (first | (with_reducible first | exact Lim.const _ | exact impl_LogsDots.L0_lim _ _ _ _ _ | exact impl_LogsDots.L1_lim _ _ _ _ _ _ | refine Lim.ite ?_ ?_ | refine Lim.bind ?_ (fun _ => ?_))))
theorem impl_LogsDots.F_eq (a0 : Int) (a1 : Int) (a2 : Int) : impl_LogsDots.F a0 a1 a2 = ((impl_isRoot.F a0 a1).bind fun bt683 => ((impl_isRoot.F a0 a2).bind fun bt685 => (if bt683.2 = true then (if bt685.2 = true then (if bt683.1 = true then (if bt685.1 = true then (impl_LogsDots.J0 a0 a1 a2 (decide (a0 < 5))) else (impl_LogsDots.J0 a0 a1 a2 true)) else (impl_LogsDots.J0 a0 a1 a2 true)) else (impl_LogsDots.J0 a0 a1 a2 true)) else (impl_LogsDots.J0 a0 a1 a2 true)))) :=
 Lim.unique (impl_LogsDots.F_lim a0 a1 a2) (by
  unfold impl_LogsDots.f
  repeat' (first | (with_reducible first | exact Lim.const _ | exact impl_LogsDots.J0_lim _ _ _ _ | exact impl_isRoot.F_lim _ _ | refine Lim.ite ?_ ?_ | refine Lim.bind ?_ (fun _ => ?_))))

end Go.Proofs.Ytadhfbchilaklaa.Fn
namespace Go.Proofs.Ytadhfbchilaklaa.Fn
open Go.RowKit Go.Proofs.YtadhfbchilaklaaW.PrintWords Go.Proofs.YtadhfbchilaklaaW.PrintLast Go.Proofs.YtadhfbchilaklaaW.PrintMore
attribute [local go_sem] max2_int min2_int max_two min_two max_three min_three max_four min_four   -- for this text's walks alone
set_option linter.unusedVariables false
set_option linter.unusedSimpArgs false

/-! ### spec_l1Has: function 241 -/
def spec_l1Has.l0 : Nat → Int → List Int → Int → Int → Option (Bool)
 | 0, _, _, _, _ => none
 | k + 1, x1, x7, x8, x9 => if x9 < x8 then (if 0 ≤ x9 then (if x9 < (x7.length : Int) then (if (rd x7 x9) = x1 then (some true) else (spec_l1Has.l0 k x1 x7 x8 (wrap64 (x9 + 1)))) else (none)) else (none)) else (some false)
def spec_l1Has.f (k : Nat) (l0 : List Int) (a1 : Int) : Option (Bool) := spec_l1Has.l0 k a1 l0 (l0.length : Int) 0
theorem spec_l1Has.mono_l : ∀ k, (∀ y0 y1 y2 y3, LeO (spec_l1Has.l0 k y0 y1 y2 y3) (spec_l1Has.l0 (k + 1) y0 y1 y2 y3))
 | 0 => fun _ _ _ _ r h => by simp [spec_l1Has.l0] at h
 | k + 1 => by
  have ih0 := spec_l1Has.mono_l k
  ·intro y0 y1 y2 y3
   unfold spec_l1Has.l0
   repeat' (first | (with_reducible first | exact ih0 _ _ _ _ | exact LeO.refl _ | exact LeO.none _ | refine LeO.ite ?_ ?_ | refine LeO.bind ?_ (fun _ => ?_)) | exact ih0 _ _ _ _ | exact LeO.none _ | refine LeO.ite ?_ ?_ | refine LeO.bind ?_ (fun _ => ?_))
theorem spec_l1Has.mono : ∀ a0 a1 k, LeO (spec_l1Has.f k a0 a1) (spec_l1Has.f (k + 1) a0 a1) := by
 intro a0 a1 k
 have ih0 := spec_l1Has.mono_l k
 unfold spec_l1Has.f
 repeat' (first | (with_reducible first | exact ih0 _ _ _ _ | exact LeO.refl _ | exact LeO.none _ | refine LeO.ite ?_ ?_ | refine LeO.bind ?_ (fun _ => ?_)) | exact ih0 _ _ _ _ | exact LeO.none _ | refine LeO.ite ?_ ?_ | refine LeO.bind ?_ (fun _ => ?_))
set_option maxHeartbeats 8000000 in
set_option maxRecDepth 100000 in
theorem spec_l1Has.calls (k : Nat) (A0 : Option Addr) (c0 : Nat) (l0 : List Int) (a1 : Int) (r : Bool) (w : World) (hr0 : Kd.C (Kd.int .i64) w A0 l0.length l0) (hc0 : l0.length ≤ c0) (h : spec_l1Has.f k l0 a1 = some r) :
  Calls Try.prog 241 #[.slice A0 l0.length c0, .int .i64 a1] w fun e w' => e = .returned (.bool r) ∧ Drawn0 w w' := by
 have HR0 := Aside0.mk hr0
 have HC0 := Aside0.mk hc0
 clear hr0 hc0
 have H := h
 unfold spec_l1Has.f at H
 clear h
 have H' := Aside0.mk H
 clear H
 go_enter Try.func241, Try.ntmps241
 go_wp2
 go_loopg [9] k (fun kq v9 w' => ∃ (x9_1 : Int), v9 = .int .i64 x9_1 ∧ Aside0 (spec_l1Has.l0 kq a1 l0 (l0.length : Int) x9_1 = some r) ∧ Aside0 (kq ≤ k) ∧ Drawn0 w w')
 case atStart => exact ⟨(0), eqd, H', ⟨Nat.le_refl _⟩, by repeat (first | exact Drawn0.refl _ | apply Drawn0.step)⟩
 case round =>
  clear H'
  try clear c2
  try clear p2
  obtain ⟨x9_1, rfl, HA, HK1, ⟨m1, rfl⟩⟩ := hrel
  cases gk with
  | zero => exact absurd HA.out (by simp [spec_l1Has.l0])
  | succ k1 =>
   have H := HA.out
   clear HA
   simp only [spec_l1Has.l0] at H
   by_cases c3 : x9_1 < (l0.length : Int)
   ·rw [if_pos c3] at H
    have c3b0 : decide (x9_1 < (l0.length : Int)) = true := decide_eq_true c3
    clear c3
    by_cases c4 : 0 ≤ x9_1
    ·rw [if_pos c4] at H
     have c4b0 : decide (0 ≤ x9_1) = true := decide_eq_true c4
     clear c4
     by_cases c5 : x9_1 < (l0.length : Int)
     ·rw [if_pos c5] at H
      have c5b0 : decide (x9_1 < (l0.length : Int)) = true := decide_eq_true c5
      clear c5
      by_cases c6 : (rd l0 x9_1) = a1
      ·rw [if_pos c6] at H
       have c6b0 : ((rd l0 x9_1) == a1) = true := beq_iff_eq.mpr c6
       have c6b1 : ((rd l0 x9_1) != a1) = false := bne_eq_false_iff_eq.mpr c6
       clear c6
       obtain rfl := Option.some.inj H
       have p236 : 0 ≤ (x9_1 : Int) := ofd
       have q236 : x9_1 < (l0.length : Int) := ofd
       obtain ⟨ad236, e236, hx236_0⟩ := Kd.at_int HR0.out x9_1 p236 q236
       cases e236
       replace p236 := eq_true p236
       replace q236 := eq_true q236
       go_wp2
       go_ret
       exact ⟨by first | rfl | (simp; done) | (simp [*]; done), by repeat (first | exact Drawn0.refl _ | apply Drawn0.step)⟩
      ·rw [if_neg c6] at H
       have c6b0 : ((rd l0 x9_1) == a1) = false := beq_eq_false_iff_ne.mpr c6
       have c6b1 : ((rd l0 x9_1) != a1) = true := bne_iff_ne.mpr c6
       have H' := Aside0.mk H
       clear H
       have p236 : 0 ≤ (x9_1 : Int) := ofd
       have q236 : x9_1 < (l0.length : Int) := ofd
       obtain ⟨ad236, e236, hx236_0⟩ := Kd.at_int HR0.out x9_1 p236 q236
       cases e236
       replace p236 := eq_true p236
       replace q236 := eq_true q236
       go_wp2
       go_roundg k1
       case measure => have := HK1.out; omega
       case rel => exact ⟨(wrap64 (x9_1 + 1)), eqd, H', ⟨by have := HK1.out; omega⟩, by repeat (first | exact Drawn0.refl _ | apply Drawn0.step)⟩
     ·rw [if_neg c5] at H
      exact absurd H (by simp)
    ·rw [if_neg c4] at H
     exact absurd H (by simp)
   ·rw [if_neg c3] at H
    have c3b0 : decide (x9_1 < (l0.length : Int)) = false := decide_eq_false c3
    clear c3
    obtain rfl := Option.some.inj H
    go_wp2
    go_ret
    exact ⟨by first | rfl | (simp; done) | (simp [*]; done), by repeat (first | exact Drawn0.refl _ | apply Drawn0.step)⟩

noncomputable def spec_l1Has.L0 (x1 : Int) (x7 : List Int) (x8 : Int) (x9 : Int) : Option (Bool) := lim fun k => spec_l1Has.l0 k x1 x7 x8 x9
theorem spec_l1Has.L0_lim (x1 : Int) (x7 : List Int) (x8 : Int) (x9 : Int) : Lim (fun k => spec_l1Has.l0 k x1 x7 x8 x9) (spec_l1Has.L0 x1 x7 x8 x9) := Lim.of fun k => (spec_l1Has.mono_l k) x1 x7 x8 x9
noncomputable def spec_l1Has.F (l0 : List Int) (a1 : Int) : Option (Bool) := lim fun k => spec_l1Has.f k l0 a1
theorem spec_l1Has.F_lim (l0 : List Int) (a1 : Int) : Lim (fun k => spec_l1Has.f k l0 a1) (spec_l1Has.F l0 a1) := Lim.of fun k => spec_l1Has.mono l0 a1 k
theorem spec_l1Has.L0_eq (x1 : Int) (x7 : List Int) (x8 : Int) (x9 : Int) : spec_l1Has.L0 x1 x7 x8 x9 = (if x9 < x8 then (if 0 ≤ x9 then (if x9 < (x7.length : Int) then (if (rd x7 x9) = x1 then (some true) else (spec_l1Has.L0 x1 x7 x8 (wrap64 (x9 + 1)))) else (none)) else (none)) else (some false)) :=
 Lim.step (f := fun k => spec_l1Has.l0 (k + 1) x1 x7 x8 x9) (spec_l1Has.L0_lim x1 x7 x8 x9) (fun _ => rfl) (by
  simp only [spec_l1Has.l0]
  repeat' (first | (with_reducible first | exact Lim.const _ | exact spec_l1Has.L0_lim _ _ _ _ | refine Lim.ite ?_ ?_ | refine Lim.bind ?_ (fun _ => ?_))))
theorem spec_l1Has.F_eq (l0 : List Int) (a1 : Int) : spec_l1Has.F l0 a1 = (spec_l1Has.L0 a1 l0 (l0.length : Int) 0) :=
 Lim.unique (spec_l1Has.F_lim l0 a1) (by
  unfold spec_l1Has.f
  repeat' (first | (with_reducible first | exact Lim.const _ | exact spec_l1Has.L0_lim _ _ _ _ | refine Lim.ite ?_ ?_ | refine Lim.bind ?_ (fun _ => ?_))))

end Go.Proofs.Ytadhfbchilaklaa.Fn
namespace Go.Proofs.Ytadhfbchilaklaa.Fn
open Go.RowKit Go.Proofs.YtadhfbchilaklaaW.PrintWords Go.Proofs.YtadhfbchilaklaaW.PrintLast Go.Proofs.YtadhfbchilaklaaW.PrintMore
attribute [local go_sem] max2_int min2_int max_two min_two max_three min_three max_four min_four   -- for this text's walks alone
set_option linter.unusedVariables false
set_option linter.unusedSimpArgs false

/-! ### spec_doPrime: function 173 -/
def spec_doPrime.f (k : Nat) (a0 : Int) : Option (Bool) := (spec_l1Has.f k (([3, 5, 7, 11, 13] : List Int)) a0).bind fun t332 => (some t332)
theorem spec_doPrime.mono : ∀ a0 k, LeO (spec_doPrime.f k a0) (spec_doPrime.f (k + 1) a0) := by
 intro a0 k
 unfold spec_doPrime.f
 repeat' (first | (with_reducible first | exact spec_l1Has.mono _ _ _ | exact LeO.refl _ | exact LeO.none _ | refine LeO.ite ?_ ?_ | refine LeO.bind ?_ (fun _ => ?_)) | exact spec_l1Has.mono _ _ _ | exact LeO.none _ | refine LeO.ite ?_ ?_ | refine LeO.bind ?_ (fun _ => ?_))
set_option maxHeartbeats 8000000 in
set_option maxRecDepth 100000 in
theorem spec_doPrime.calls (k : Nat) (a0 : Int) (r : Bool) (w : World) (h : spec_doPrime.f k a0 = some r) :
  Calls Try.prog 173 #[.int .i64 a0] w fun e w' => e = .returned (.bool r) ∧ Below w.heap.size w w' := by
 have HB := Aside0.mk (Below.refl w.heap.size w)
 have H := h
 unfold spec_doPrime.f at H
 clear h
 obtain ⟨y329, hy329⟩ : ∃ y_ : List Int, y_ = (([3, 5, 7, 11, 13] : List Int)) := ⟨_, rfl⟩
 replace H : ((spec_l1Has.f k y329 a0).bind fun t332 => (some t332)) = some r := by first | (rw [hy329]; with_reducible exact H) | (have H2_ := (Option.bind_some _ _).symm.trans H; rw [hy329]; with_reducible exact H2_) | (have H2_ := (Option.bind_some _ _).symm.trans H; with_reducible exact H2_) | with_reducible exact H | (rw [hy329]; exact H) | exact H
 have Ny329 := Aside0.mk hy329
 clear hy329
 replace H := Option.bind_eq_some_iff.mp H
 obtain ⟨t332, A20, H⟩ := H
 replace H : (some t332) = some r := H
 have A2 := Aside0.mk A20
 clear A20
 obtain rfl := Option.some.inj H
 go_enter Try.func173, Try.ntmps173
 go_wp2_with (first | ((with_reducible refine gate_dst (N := 3) rfl ?_); refine Kd.R_lit (Kd.int .i64) _ 3 ?hg (N := 3) ?hd (xs := ([3, 5, 7, 11, 13] : List Int)) (inner := [.int .i64 3, .int .i64 5, .int .i64 7, .int .i64 11, .int .i64 13]) (ok := fun _ => True) (okp := fun _ => True) ?hr ?hp (fun _ hk => hk) trivial (Below.refl _ _) (Nat.le_refl _) (by simp) ?_; (case hd => rfl); (case hg => rfl); (case hr => first | (go_simp; done) | (go_simp; rfl)); (case hp => exact repsI _); intro v330 w3 ho4 hb hg_ hnew_; clear hg_ hnew_; (first | rw [← Ny329.out] at ho4 | (simp only [Int.reduceToNat] at ho4; rw [← Ny329.out] at ho4)); have HO331 := lowR ho4 HB; replace HB := upB HB hb; clear hb ho4; obtain ⟨Ao5, co5, eo5⟩ := Kd.R_slice HO331.out; subst eo5) | ((with_reducible refine gate_callee (f := 241) rfl ?_); refine goesA (some 5) Try.func241 #[.slice Ao5 y329.length co5, .int .i64 a0] ?_; (with_reducible refine (spec_l1Has.calls k _ _ y329 a0 t332 _ ?side1 ?side2 A2.out).mono ?_); (case side1 => exact atRC HO331); (case side2 => exact (Kd.R_reads' HO331.out).2.1); rintro e w' ⟨rfl, ⟨nd, rfl⟩⟩; refine ⟨_, rfl, ?_⟩))
 go_ret
 exact ⟨eqr, atB HB⟩

noncomputable def spec_doPrime.F (a0 : Int) : Option (Bool) := lim fun k => spec_doPrime.f k a0
theorem spec_doPrime.F_lim (a0 : Int) : Lim (fun k => spec_doPrime.f k a0) (spec_doPrime.F a0) := Lim.of fun k => spec_doPrime.mono a0 k
theorem spec_doPrime.F_eq (a0 : Int) : spec_doPrime.F a0 = ((spec_l1Has.F (([3, 5, 7, 11, 13] : List Int)) a0).bind fun t332 => (some t332)) :=
 Lim.unique (spec_doPrime.F_lim a0) (by
  unfold spec_doPrime.f
  repeat' (first | (with_reducible first | exact Lim.const _ | exact spec_l1Has.F_lim _ _ | refine Lim.ite ?_ ?_ | refine Lim.bind ?_ (fun _ => ?_))))

end Go.Proofs.Ytadhfbchilaklaa.Fn
namespace Go.Proofs.Ytadhfbchilaklaa.Fn
open Go.RowKit Go.Proofs.YtadhfbchilaklaaW.PrintWords Go.Proofs.YtadhfbchilaklaaW.PrintLast Go.Proofs.YtadhfbchilaklaaW.PrintMore
attribute [local go_sem] max2_int min2_int max_two min_two max_three min_three max_four min_four   -- for this text's walks alone
set_option linter.unusedVariables false
set_option linter.unusedSimpArgs false

/-! ### spec_doPowers: function 175 -/
def spec_doPowers.l0 : Nat → Int → Int → List Int → Option (List Int)
 | 0, _, _, _ => none
 | k + 1, x0, x1, x5 => if (x5.length : Int) < (wrap64 (x0 - 1)) then (if 0 ≤ (wrap64 ((x5.length : Int) - 1)) then (if (wrap64 ((x5.length : Int) - 1)) < (x5.length : Int) then (if x0 = 0 then (none) else (if x5.length < 17592186044416 then (spec_doPowers.l0 k x0 x1 (x5 ++ [Int.tmod (wrap64 ((rd x5 (wrap64 ((x5.length : Int) - 1))) * x1)) x0])) else (none))) else (none)) else (none)) else (some x5)
def spec_doPowers.f (k : Nat) (a0 : Int) (a1 : Int) : Option (List Int) := spec_doPowers.l0 k a0 a1 (([1] : List Int))
theorem spec_doPowers.mono_l : ∀ k, (∀ y0 y1 y2, LeO (spec_doPowers.l0 k y0 y1 y2) (spec_doPowers.l0 (k + 1) y0 y1 y2))
 | 0 => fun _ _ _ r h => by simp [spec_doPowers.l0] at h
 | k + 1 => by
  have ih0 := spec_doPowers.mono_l k
  ·intro y0 y1 y2
   unfold spec_doPowers.l0
   repeat' (first | (with_reducible first | exact ih0 _ _ _ | exact LeO.refl _ | exact LeO.none _ | refine LeO.ite ?_ ?_ | refine LeO.bind ?_ (fun _ => ?_)) | exact ih0 _ _ _ | exact LeO.none _ | refine LeO.ite ?_ ?_ | refine LeO.bind ?_ (fun _ => ?_))
theorem spec_doPowers.mono : ∀ a0 a1 k, LeO (spec_doPowers.f k a0 a1) (spec_doPowers.f (k + 1) a0 a1) := by
 intro a0 a1 k
 have ih0 := spec_doPowers.mono_l k
 unfold spec_doPowers.f
 repeat' (first | (with_reducible first | exact ih0 _ _ _ | exact LeO.refl _ | exact LeO.none _ | refine LeO.ite ?_ ?_ | refine LeO.bind ?_ (fun _ => ?_)) | exact ih0 _ _ _ | exact LeO.none _ | refine LeO.ite ?_ ?_ | refine LeO.bind ?_ (fun _ => ?_))
set_option maxHeartbeats 8000000 in
set_option maxRecDepth 100000 in
theorem spec_doPowers.calls (k : Nat) (a0 : Int) (a1 : Int) (r : List Int) (w : World) (h : spec_doPowers.f k a0 a1 = some r) :
  Calls Try.prog 175 #[.int .i64 a0, .int .i64 a1] w fun e w' => ∃ v0_ : Value, e = .returned (v0_) ∧ Kd.R (Kd.int .i64) 3 w' w.heap.size (fun _ => True) v0_ r ∧ Below w.heap.size w w' := by
 have HB := Aside0.mk (Below.refl w.heap.size w)
 have H := h
 unfold spec_doPowers.f at H
 clear h
 obtain ⟨y333, hy333⟩ : ∃ y_ : List Int, y_ = (([1] : List Int)) := ⟨_, rfl⟩
 replace H : (spec_doPowers.l0 k a0 a1 y333) = some r := by first | (rw [hy333]; with_reducible exact H) | (have H2_ := (Option.bind_some _ _).symm.trans H; rw [hy333]; with_reducible exact H2_) | (have H2_ := (Option.bind_some _ _).symm.trans H; with_reducible exact H2_) | with_reducible exact H | (rw [hy333]; exact H) | exact H
 have Ny333 := Aside0.mk hy333
 clear hy333
 have H' := Aside0.mk H
 clear H
 go_enter Try.func175, Try.ntmps175
 go_wp2_with (first | ((with_reducible refine gate_dst (N := 6) rfl ?_); refine Kd.R_lit (Kd.int .i64) _ 3 ?hg (N := 6) ?hd (xs := ([1] : List Int)) (inner := [.int .i64 1]) (ok := fun _ => True) (okp := fun _ => True) ?hr ?hp (fun _ hk => hk) trivial (Below.refl _ _) (Nat.le_refl _) (by simp) ?_; (case hd => rfl); (case hg => rfl); (case hr => first | (go_simp; done) | (go_simp; rfl)); (case hp => exact repsI _); intro v334 w3 ho4 hb hg_ hnew_; clear hg_ hnew_; (first | rw [← Ny333.out] at ho4 | (simp only [Int.reduceToNat] at ho4; rw [← Ny333.out] at ho4)); have HO335 := lowR ho4 HB; replace HB := upB HB hb; clear hb ho4))
 go_loopg [5] k (fun kq v5 w' => ∃ (x5_1 : List Int), Aside0 (spec_doPowers.l0 kq a0 a1 x5_1 = some r) ∧ Aside0 (kq ≤ k) ∧ Aside0 (Kd.R (Kd.int .i64) 3 w' w.heap.size (fun _ => True) v5 x5_1) ∧ Aside0 (Below w.heap.size w w'))
 case atStart => exact ⟨(y333), H', ⟨Nat.le_refl _⟩, ⟨atR HO335⟩, ⟨atB HB⟩⟩
 case round =>
  clear H'
  try clear c1
  try clear p2
  obtain ⟨x5_1, HA, HK1, HO_5, HB⟩ := hrel
  cases gk with
  | zero => exact absurd HA.out (by simp [spec_doPowers.l0])
  | succ k1 =>
   have H := HA.out
   clear HA
   simp only [spec_doPowers.l0] at H
   by_cases c5 : (x5_1.length : Int) < (wrap64 (a0 - 1))
   ·rw [if_pos c5] at H
    have c5b0 : decide ((x5_1.length : Int) < (wrap64 (a0 - 1))) = true := decide_eq_true c5
    clear c5
    obtain ⟨ji6, hji6⟩ : ∃ j_ : Int, (wrap64 ((x5_1.length : Int) - 1)) = j_ := ⟨_, rfl⟩
    replace H : (if 0 ≤ (ji6) then (if (ji6) < (x5_1.length : Int) then (if a0 = 0 then (none) else (if x5_1.length < 17592186044416 then (spec_doPowers.l0 k1 a0 a1 (x5_1 ++ [Int.tmod (wrap64 ((rd x5_1 (ji6)) * a1)) a0])) else (none))) else (none)) else (none)) = some r := by first | (rw [hji6] at H; exact H) | (simp only [hji6] at H ⊢; exact H)
    have hji6w : (IntKind.i64.wrap ((x5_1.length : Int) - 1)) = ji6 := (i64_w _).trans hji6
    by_cases c7 : 0 ≤ (ji6)
    ·rw [if_pos c7] at H
     have c7b0 : decide (0 ≤ (ji6)) = true := decide_eq_true c7
     clear c7
     by_cases c8 : (ji6) < (x5_1.length : Int)
     ·rw [if_pos c8] at H
      have c8b0 : decide ((ji6) < (x5_1.length : Int)) = true := decide_eq_true c8
      clear c8
      by_cases c9 : a0 = 0
      ·rw [if_pos c9] at H
       exact absurd H (by simp)
      ·rw [if_neg c9] at H
       have c9b0 : (a0 == 0) = false := beq_eq_false_iff_ne.mpr c9
       have c9b1 : (a0 != 0) = true := bne_iff_ne.mpr c9
       by_cases c10 : x5_1.length < 17592186044416
       ·rw [if_pos c10] at H
        have LMc10 := Aside0.mk c10
        clear c10
        obtain ⟨y337, hy337⟩ : ∃ y_ : List Int, y_ = (x5_1 ++ [Int.tmod (wrap64 ((rd x5_1 (ji6)) * a1)) a0]) := ⟨_, rfl⟩
        replace H : (spec_doPowers.l0 k1 a0 a1 y337) = some r := by first | (rw [hy337]; with_reducible exact H) | (have H2_ := (Option.bind_some _ _).symm.trans H; rw [hy337]; with_reducible exact H2_) | (have H2_ := (Option.bind_some _ _).symm.trans H; with_reducible exact H2_) | with_reducible exact H | (rw [hy337]; exact H) | exact H
        have Ny337 := Aside0.mk hy337
        clear hy337
        have H' := Aside0.mk H
        clear H
        obtain ⟨Ao11, co11, eo11⟩ := Kd.R_slice HO_5.out
        subst eo11
        have p336 : 0 ≤ ((ji6) : Int) := ofd
        have q336 : (ji6) < (x5_1.length : Int) := ofd
        obtain ⟨ad336, e336, hx336_0⟩ := Kd.at_int (Kd.R_reads' HO_5.out).2.2 (ji6) p336 q336
        cases e336
        replace p336 := eq_true p336
        replace q336 := eq_true q336
        go_wp2_with (first | ((with_reducible refine gate_builtin (b := .append) (xs := #[.tmp 12, .tmp 23]) rfl ?_); at_builtin; refine Kd.R_append (Kd.int .i64) (w0 := w) w.heap.size rfl (.tmp 12) (.tmp 23) 24 3 (.int .i64 0) 8 rfl Try.underlying24 info3 rfl (by decide) (by omega) (.slice (some ad336) x5_1.length co11) x5_1 (Int.tmod (wrap64 ((rd x5_1 (ji6)) * a1)) a0) [.int .i64 (Int.tmod (wrap64 ((rd x5_1 (ji6)) * a1)) a0)] (fun _ => True) (fun _ => False) rfl rfl ?aP (fun _ hk => hk.elim) ?aF ?aO ?aB ?aS ?aL ?_; (case aP => exact rfl); (case aB => exact (atB HB)); (case aF => exact (fun _ _ => trivial)); (case aO => exact (atR HO_5)); (case aS => exact (szB HB)); (case aL => have := LMc10.out; omega); intro v338 w12 ho hb hg hat; rw [← Ny337.out] at ho; have HO339 := Aside0.mk (ho); replace HB := Aside0.mk (hb); clear HO_5; clear ho hb hg hat))
        first | go_roundg k1 | ((try subst hji6); go_roundg k1)
        case measure => have := HK1.out; omega
        case rel => exact ⟨(y337), H', ⟨by have := HK1.out; omega⟩, ⟨atR HO339⟩, ⟨atB HB⟩⟩
       ·rw [if_neg c10] at H
        exact absurd H (by simp)
     ·rw [if_neg c8] at H
      exact absurd H (by simp)
    ·rw [if_neg c7] at H
     exact absurd H (by simp)
   ·rw [if_neg c5] at H
    have c5b0 : decide ((x5_1.length : Int) < (wrap64 (a0 - 1))) = false := decide_eq_false c5
    clear c5
    obtain rfl := Option.some.inj H
    obtain ⟨Ao13, co13, eo13⟩ := Kd.R_slice HO_5.out
    subst eo13
    go_wp2
    go_ret
    exact ⟨_, eqr, atR HO_5, atB HB⟩

noncomputable def spec_doPowers.L0 (x0 : Int) (x1 : Int) (x5 : List Int) : Option (List Int) := lim fun k => spec_doPowers.l0 k x0 x1 x5
theorem spec_doPowers.L0_lim (x0 : Int) (x1 : Int) (x5 : List Int) : Lim (fun k => spec_doPowers.l0 k x0 x1 x5) (spec_doPowers.L0 x0 x1 x5) := Lim.of fun k => (spec_doPowers.mono_l k) x0 x1 x5
noncomputable def spec_doPowers.F (a0 : Int) (a1 : Int) : Option (List Int) := lim fun k => spec_doPowers.f k a0 a1
theorem spec_doPowers.F_lim (a0 : Int) (a1 : Int) : Lim (fun k => spec_doPowers.f k a0 a1) (spec_doPowers.F a0 a1) := Lim.of fun k => spec_doPowers.mono a0 a1 k
theorem spec_doPowers.L0_eq (x0 : Int) (x1 : Int) (x5 : List Int) : spec_doPowers.L0 x0 x1 x5 = (if (x5.length : Int) < (wrap64 (x0 - 1)) then (if 0 ≤ (wrap64 ((x5.length : Int) - 1)) then (if (wrap64 ((x5.length : Int) - 1)) < (x5.length : Int) then (if x0 = 0 then (none) else (if x5.length < 17592186044416 then (spec_doPowers.L0 x0 x1 (x5 ++ [Int.tmod (wrap64 ((rd x5 (wrap64 ((x5.length : Int) - 1))) * x1)) x0])) else (none))) else (none)) else (none)) else (some x5)) :=
 Lim.step (f := fun k => spec_doPowers.l0 (k + 1) x0 x1 x5) (spec_doPowers.L0_lim x0 x1 x5) (fun _ => rfl) (by
  simp only [spec_doPowers.l0]
  repeat' (first | (with_reducible first | exact Lim.const _ | exact spec_doPowers.L0_lim _ _ _ | refine Lim.ite ?_ ?_ | refine Lim.bind ?_ (fun _ => ?_))))
theorem spec_doPowers.F_eq (a0 : Int) (a1 : Int) : spec_doPowers.F a0 a1 = (spec_doPowers.L0 a0 a1 (([1] : List Int))) :=
 Lim.unique (spec_doPowers.F_lim a0 a1) (by
  unfold spec_doPowers.f
  repeat' (first | (with_reducible first | exact Lim.const _ | exact spec_doPowers.L0_lim _ _ _ | refine Lim.ite ?_ ?_ | refine Lim.bind ?_ (fun _ => ?_))))

end Go.Proofs.Ytadhfbchilaklaa.Fn
namespace Go.Proofs.Ytadhfbchilaklaa.Fn
open Go.RowKit Go.Proofs.YtadhfbchilaklaaW.PrintWords Go.Proofs.YtadhfbchilaklaaW.PrintLast Go.Proofs.YtadhfbchilaklaaW.PrintMore
attribute [local go_sem] max2_int min2_int max_two min_two max_three min_three max_four min_four   -- for this text's walks alone
set_option linter.unusedVariables false
set_option linter.unusedSimpArgs false

/-! ### spec_l1In: function 176 -/
def spec_l1In.f (a0 : Int) (a1 : Int) (a2 : Int) : Option (Bool) := if a0 ≥ a1 then (some (decide (a0 ≤ a2))) else (some false)
set_option maxHeartbeats 8000000 in
set_option maxRecDepth 100000 in
theorem spec_l1In.calls (a0 : Int) (a1 : Int) (a2 : Int) (r : Bool) (w : World) (h : spec_l1In.f a0 a1 a2 = some r) :
  Calls Try.prog 176 #[.int .i64 a0, .int .i64 a1, .int .i64 a2] w fun e w' => e = .returned (.bool r) ∧ Drawn0 w w' := by
 have H := h
 unfold spec_l1In.f at H
 clear h
 by_cases c4 : a0 ≥ a1
 ·rw [if_pos c4] at H
  have c4b0 : decide (a1 ≤ a0) = true := decide_eq_true c4
  clear c4
  obtain rfl := Option.some.inj H
  go_enter Try.func176, Try.ntmps176
  go_wp2
  go_ret
  exact ⟨by first | rfl | (simp; done) | (simp [*]; done), by repeat (first | exact Drawn0.refl _ | apply Drawn0.step)⟩
 ·rw [if_neg c4] at H
  have c4b0 : decide (a1 ≤ a0) = false := decide_eq_false c4
  clear c4
  obtain rfl := Option.some.inj H
  go_enter Try.func176, Try.ntmps176
  go_wp2
  go_ret
  exact ⟨by first | rfl | (simp; done) | (simp [*]; done), by repeat (first | exact Drawn0.refl _ | apply Drawn0.step)⟩


end Go.Proofs.Ytadhfbchilaklaa.Fn
namespace Go.Proofs.Ytadhfbchilaklaa.Fn
open Go.RowKit Go.Proofs.YtadhfbchilaklaaW.PrintWords Go.Proofs.YtadhfbchilaklaaW.PrintLast Go.Proofs.YtadhfbchilaklaaW.PrintMore
attribute [local go_sem] max2_int min2_int max_two min_two max_three min_three max_four min_four   -- for this text's walks alone
set_option linter.unusedVariables false
set_option linter.unusedSimpArgs false

/-! ### spec_doRoot: function 174 -/
def spec_doRoot.l0 : Nat → List Int → List Int → Int → Int → Option (Bool)
 | 0, _, _, _, _ => none
 | k + 1, x5, x16, x17, x18 => if x18 < x17 then (if 0 ≤ x18 then (if x18 < (x16.length : Int) then (if x18 ≤ (x5.length : Int) then ((spec_l1Has.f k (x5.take (x18 : Int).toNat) (rd x16 x18)).bind fun t349 => (if t349 = true then (some false) else (spec_doRoot.l0 k x5 x16 x17 (wrap64 (x18 + 1))))) else (none)) else (none)) else (none)) else (some true)
def spec_doRoot.f (k : Nat) (a0 : Int) (a1 : Int) : Option (Bool) := (spec_l1In.f a1 2 (wrap64 (a0 - 1))).bind fun t340 => (if t340 = true then ((spec_doPowers.f k a0 a1).bind fun t341 => (spec_doRoot.l0 k t341 t341 (t341.length : Int) 0)) else (some false))
theorem spec_doRoot.mono_l : ∀ k, (∀ y0 y1 y2 y3, LeO (spec_doRoot.l0 k y0 y1 y2 y3) (spec_doRoot.l0 (k + 1) y0 y1 y2 y3))
 | 0 => fun _ _ _ _ r h => by simp [spec_doRoot.l0] at h
 | k + 1 => by
  have ih0 := spec_doRoot.mono_l k
  ·intro y0 y1 y2 y3
   unfold spec_doRoot.l0
   repeat' (first | (with_reducible first | exact ih0 _ _ _ _ | exact spec_l1Has.mono _ _ _ | exact LeO.refl _ | exact LeO.none _ | refine LeO.ite ?_ ?_ | refine LeO.bind ?_ (fun _ => ?_)) | exact ih0 _ _ _ _ | exact spec_l1Has.mono _ _ _ | exact LeO.none _ | refine LeO.ite ?_ ?_ | refine LeO.bind ?_ (fun _ => ?_))
theorem spec_doRoot.mono : ∀ a0 a1 k, LeO (spec_doRoot.f k a0 a1) (spec_doRoot.f (k + 1) a0 a1) := by
 intro a0 a1 k
 have ih0 := spec_doRoot.mono_l k
 unfold spec_doRoot.f
 repeat' (first | (with_reducible first | exact ih0 _ _ _ _ | exact spec_doPowers.mono _ _ _ | exact LeO.refl _ | exact LeO.none _ | refine LeO.ite ?_ ?_ | refine LeO.bind ?_ (fun _ => ?_)) | exact ih0 _ _ _ _ | exact spec_doPowers.mono _ _ _ | exact LeO.none _ | refine LeO.ite ?_ ?_ | refine LeO.bind ?_ (fun _ => ?_))
set_option maxHeartbeats 8000000 in
set_option maxRecDepth 100000 in
theorem spec_doRoot.calls (k : Nat) (a0 : Int) (a1 : Int) (r : Bool) (w : World) (h : spec_doRoot.f k a0 a1 = some r) :
  Calls Try.prog 174 #[.int .i64 a0, .int .i64 a1] w fun e w' => e = .returned (.bool r) ∧ Below w.heap.size w w' := by
 have HB := Aside0.mk (Below.refl w.heap.size w)
 have H := h
 unfold spec_doRoot.f at H
 clear h
 replace H := Option.bind_eq_some_iff.mp H
 obtain ⟨t340, A30, H⟩ := H
 replace H : (if t340 = true then ((spec_doPowers.f k a0 a1).bind fun t341 => (spec_doRoot.l0 k t341 t341 (t341.length : Int) 0)) else (some false)) = some r := H
 have A3 := Aside0.mk A30
 clear A30
 by_cases c4 : t340 = true
 ·subst c4
  have H1 : ((spec_doPowers.f k a0 a1).bind fun t341 => (spec_doRoot.l0 k t341 t341 (t341.length : Int) 0)) = some r := by rw [if_pos rfl] at H; exact H
  clear H
  have H := H1
  clear H1
  replace H := Option.bind_eq_some_iff.mp H
  obtain ⟨t341, A50, H⟩ := H
  replace H : (spec_doRoot.l0 k t341 t341 (t341.length : Int) 0) = some r := H
  have A5 := Aside0.mk A50
  clear A50
  have H' := Aside0.mk H
  clear H
  go_enter Try.func174, Try.ntmps174
  go_wp2_with (first | ((with_reducible refine gate_callee (f := 176) rfl ?_); refine goesA (some 11) Try.func176 #[.int .i64 a1, .int .i64 2, .int .i64 (wrap64 (a0 - 1))] ?_; (with_reducible refine (spec_l1In.calls a1 2 (wrap64 (a0 - 1)) true _ A3.out).mono ?_); rintro e w' ⟨rfl, ⟨nd, rfl⟩⟩; refine ⟨_, rfl, ?_⟩) | ((with_reducible refine gate_callee (f := 175) rfl ?_); refine goesA (some 15) Try.func175 #[.int .i64 a0, .int .i64 a1] ?_; (with_reducible refine (spec_doPowers.calls k a0 a1 t341 _ A5.out).mono ?_); rintro e w6 ⟨v342, rfl, ho0, hb⟩; refine ⟨_, rfl, ?_⟩; have HO343 := lowR ho0 HB; replace HB := upB HB hb; (try clear hb); (try clear hb2); (try clear hk); (try clear hi); (try clear ho0); obtain ⟨Ao7, co7, eo7⟩ := Kd.R_slice HO343.out; subst eo7))
  go_loopg [18] k (fun kq v18 w' => ∃ (x18_1 : Int), v18 = .int .i64 x18_1 ∧ Aside0 (spec_doRoot.l0 kq t341 t341 (t341.length : Int) x18_1 = some r) ∧ Aside0 (kq ≤ k) ∧ Aside0 (Kd.R (Kd.int .i64) 3 w' w.heap.size (fun _ => True) (.slice Ao7 t341.length co7) t341) ∧ Aside0 (Kd.R (Kd.int .i64) 3 w' w.heap.size (fun _ => True) (.slice Ao7 t341.length co7) t341) ∧ Aside0 (Below w.heap.size w w'))
  case atStart => exact ⟨(0), eqd, H', ⟨Nat.le_refl _⟩, ⟨atR HO343⟩, ⟨atR HO343⟩, ⟨atB HB⟩⟩
  case round =>
   clear H'
   try clear c1
   try clear p2
   try clear c4
   try clear p6
   obtain ⟨x18_1, rfl, HA, HK1, HO_5, HO_16, HB⟩ := hrel
   cases gk with
   | zero => exact absurd HA.out (by simp [spec_doRoot.l0])
   | succ k1 =>
    have H := HA.out
    clear HA
    simp only [spec_doRoot.l0] at H
    by_cases c8 : x18_1 < (t341.length : Int)
    ·rw [if_pos c8] at H
     have c8b0 : decide (x18_1 < (t341.length : Int)) = true := decide_eq_true c8
     clear c8
     by_cases c9 : 0 ≤ x18_1
     ·rw [if_pos c9] at H
      have c9b0 : decide (0 ≤ x18_1) = true := decide_eq_true c9
      clear c9
      by_cases c10 : x18_1 < (t341.length : Int)
      ·rw [if_pos c10] at H
       have c10b0 : decide (x18_1 < (t341.length : Int)) = true := decide_eq_true c10
       clear c10
       have c11b0 := eq_true (of_decide_eq_true (by first | (with_reducible assumption) | assumption) : 0 ≤ x18_1)
       by_cases c12 : x18_1 ≤ (t341.length : Int)
       ·rw [if_pos c12] at H
        have c12b0 := eq_true c12
        have c12b1 : decide (x18_1 ≤ (t341.length : Int)) = true := decide_eq_true c12
        clear c12
        obtain ⟨y345, hy345⟩ : ∃ y_ : List Int, y_ = (t341.take (x18_1 : Int).toNat) := ⟨_, rfl⟩
        replace H : ((spec_l1Has.f k1 y345 (rd t341 x18_1)).bind fun t349 => (if t349 = true then (some false) else (spec_doRoot.l0 k1 t341 t341 (t341.length : Int) (wrap64 (x18_1 + 1))))) = some r := by first | (rw [hy345]; with_reducible exact H) | (have H2_ := (Option.bind_some _ _).symm.trans H; rw [hy345]; with_reducible exact H2_) | (have H2_ := (Option.bind_some _ _).symm.trans H; with_reducible exact H2_) | with_reducible exact H | (rw [hy345]; exact H) | exact H
        have Ny345 := Aside0.mk hy345
        clear hy345
        replace H := Option.bind_eq_some_iff.mp H
        obtain ⟨t349, A130, H⟩ := H
        replace H : (if t349 = true then (some false) else (spec_doRoot.l0 k1 t341 t341 (t341.length : Int) (wrap64 (x18_1 + 1)))) = some r := H
        have A13 := Aside0.mk A130
        clear A130
        by_cases c14 : t349 = true
        ·subst c14
         have H1 : (some false) = some r := by rw [if_pos rfl] at H; exact H
         clear H
         have H := H1
         clear H1
         obtain rfl := Option.some.inj H
         have p344 : 0 ≤ (x18_1 : Int) := ofd
         have q344 : x18_1 < (t341.length : Int) := ofd
         obtain ⟨ad344, e344, hx344_0⟩ := Kd.at_int (Kd.R_reads' HO_16.out).2.2 x18_1 p344 q344
         cases e344
         replace p344 := eq_true p344
         replace q344 := eq_true q344
         have q15 : (x18_1 : Int) ≤ ((t341.length : Int) : Int) := ofd
         obtain ⟨i015, hi015, _, hsz15, _⟩ := info_parts info3
         have hroom15 : t341.length ≤ co7 := (Kd.R_reads' HO_5.out).2.1
         have hC15 : Kd.C (Kd.int .i64) _ (some ad344) t341.length t341 := (Kd.R_reads' HO_5.out).2.2
         have hcut15 := cut_to (P := Try.prog) 24 3 .i64 Try.underlying24 hi015 (some ad344) t341.length co7 x18_1 (of_decide_eq_true (by first | (with_reducible assumption) | assumption)) q15 hroom15
         have hr15 := Kd.C_take (m := (x18_1 : Int).toNat) hC15 (by omega)
         have hy15 : y345.length = (x18_1 : Int).toNat := (by rw [Ny345.out, List.length_take]; omega)
         rw [← Ny345.out] at hr15
         rw [← hy15] at hcut15
         have HR348 := Aside0.mk hr15
         have HC348 := Aside0.mk (show y345.length ≤ co7 from by omega)
         clear hr15 hC15 hroom15 hi015 hsz15
         have KY15 := Aside0.mk hy15
         clear hy15
         have KL15 := Aside0.mk (show (x18_1 : Int).toNat ≤ t341.length from by omega)
         replace q15 := eq_true q15
         go_wp2_with (first | ((with_reducible refine gate_callee (f := 241) rfl ?_); refine goesA (some 27) Try.func241 #[.slice (some ad344) y345.length co7, .int .i64 (rd t341 x18_1)] ?_; (with_reducible refine (spec_l1Has.calls k1 _ _ y345 (rd t341 x18_1) true _ ?side1 ?side2 A13.out).mono ?_); (case side1 => exact atC HR348); (case side2 => exact HC348.out); rintro e w' ⟨rfl, ⟨nd, rfl⟩⟩; refine ⟨_, rfl, ?_⟩))
         go_ret
         exact ⟨eqr, atB HB⟩
        ·replace c14 := Bool.eq_false_iff.mpr c14
         subst c14
         have H1 : (spec_doRoot.l0 k1 t341 t341 (t341.length : Int) (wrap64 (x18_1 + 1))) = some r := by rw [if_neg (show ¬ (false = true) by decide)] at H; exact H
         clear H
         have H := H1
         clear H1
         have H' := Aside0.mk H
         clear H
         have p344 : 0 ≤ (x18_1 : Int) := ofd
         have q344 : x18_1 < (t341.length : Int) := ofd
         obtain ⟨ad344, e344, hx344_0⟩ := Kd.at_int (Kd.R_reads' HO_16.out).2.2 x18_1 p344 q344
         cases e344
         replace p344 := eq_true p344
         replace q344 := eq_true q344
         have q16 : (x18_1 : Int) ≤ ((t341.length : Int) : Int) := ofd
         obtain ⟨i016, hi016, _, hsz16, _⟩ := info_parts info3
         have hroom16 : t341.length ≤ co7 := (Kd.R_reads' HO_5.out).2.1
         have hC16 : Kd.C (Kd.int .i64) _ (some ad344) t341.length t341 := (Kd.R_reads' HO_5.out).2.2
         have hcut16 := cut_to (P := Try.prog) 24 3 .i64 Try.underlying24 hi016 (some ad344) t341.length co7 x18_1 (of_decide_eq_true (by first | (with_reducible assumption) | assumption)) q16 hroom16
         have hr16 := Kd.C_take (m := (x18_1 : Int).toNat) hC16 (by omega)
         have hy16 : y345.length = (x18_1 : Int).toNat := (by rw [Ny345.out, List.length_take]; omega)
         rw [← Ny345.out] at hr16
         rw [← hy16] at hcut16
         have HR348 := Aside0.mk hr16
         have HC348 := Aside0.mk (show y345.length ≤ co7 from by omega)
         clear hr16 hC16 hroom16 hi016 hsz16
         have KY16 := Aside0.mk hy16
         clear hy16
         have KL16 := Aside0.mk (show (x18_1 : Int).toNat ≤ t341.length from by omega)
         replace q16 := eq_true q16
         go_wp2_with (first | ((with_reducible refine gate_callee (f := 241) rfl ?_); refine goesA (some 27) Try.func241 #[.slice (some ad344) y345.length co7, .int .i64 (rd t341 x18_1)] ?_; (with_reducible refine (spec_l1Has.calls k1 _ _ y345 (rd t341 x18_1) false _ ?side1 ?side2 A13.out).mono ?_); (case side1 => exact atC HR348); (case side2 => exact HC348.out); rintro e w' ⟨rfl, ⟨nd, rfl⟩⟩; refine ⟨_, rfl, ?_⟩))
         go_roundg k1
         case measure => have := HK1.out; omega
         case rel => exact ⟨(wrap64 (x18_1 + 1)), eqd, H', ⟨by have := HK1.out; omega⟩, ⟨atR HO_5⟩, ⟨atR HO_16⟩, ⟨atB HB⟩⟩
       ·rw [if_neg c12] at H
        exact absurd H (by simp)
      ·rw [if_neg c10] at H
       exact absurd H (by simp)
     ·rw [if_neg c9] at H
      exact absurd H (by simp)
    ·rw [if_neg c8] at H
     have c8b0 : decide (x18_1 < (t341.length : Int)) = false := decide_eq_false c8
     clear c8
     obtain rfl := Option.some.inj H
     go_wp2
     go_ret
     exact ⟨eqr, atB HB⟩
 ·replace c4 := Bool.eq_false_iff.mpr c4
  subst c4
  have H1 : (some false) = some r := by rw [if_neg (show ¬ (false = true) by decide)] at H; exact H
  clear H
  have H := H1
  clear H1
  obtain rfl := Option.some.inj H
  go_enter Try.func174, Try.ntmps174
  go_wp2_with (first | ((with_reducible refine gate_callee (f := 176) rfl ?_); refine goesA (some 11) Try.func176 #[.int .i64 a1, .int .i64 2, .int .i64 (wrap64 (a0 - 1))] ?_; (with_reducible refine (spec_l1In.calls a1 2 (wrap64 (a0 - 1)) false _ A3.out).mono ?_); rintro e w' ⟨rfl, ⟨nd, rfl⟩⟩; refine ⟨_, rfl, ?_⟩))
  go_ret
  exact ⟨eqr, atB HB⟩

noncomputable def spec_doRoot.L0 (x5 : List Int) (x16 : List Int) (x17 : Int) (x18 : Int) : Option (Bool) := lim fun k => spec_doRoot.l0 k x5 x16 x17 x18
theorem spec_doRoot.L0_lim (x5 : List Int) (x16 : List Int) (x17 : Int) (x18 : Int) : Lim (fun k => spec_doRoot.l0 k x5 x16 x17 x18) (spec_doRoot.L0 x5 x16 x17 x18) := Lim.of fun k => (spec_doRoot.mono_l k) x5 x16 x17 x18
noncomputable def spec_doRoot.F (a0 : Int) (a1 : Int) : Option (Bool) := lim fun k => spec_doRoot.f k a0 a1
theorem spec_doRoot.F_lim (a0 : Int) (a1 : Int) : Lim (fun k => spec_doRoot.f k a0 a1) (spec_doRoot.F a0 a1) := Lim.of fun k => spec_doRoot.mono a0 a1 k
theorem spec_doRoot.L0_eq (x5 : List Int) (x16 : List Int) (x17 : Int) (x18 : Int) : spec_doRoot.L0 x5 x16 x17 x18 = (if x18 < x17 then (if 0 ≤ x18 then (if x18 < (x16.length : Int) then (if x18 ≤ (x5.length : Int) then ((spec_l1Has.F (x5.take (x18 : Int).toNat) (rd x16 x18)).bind fun t349 => (if t349 = true then (some false) else (spec_doRoot.L0 x5 x16 x17 (wrap64 (x18 + 1))))) else (none)) else (none)) else (none)) else (some true)) :=
 Lim.step (f := fun k => spec_doRoot.l0 (k + 1) x5 x16 x17 x18) (spec_doRoot.L0_lim x5 x16 x17 x18) (fun _ => rfl) (by
  simp only [spec_doRoot.l0]
  repeat' (first | (with_reducible first | exact Lim.const _ | exact spec_doRoot.L0_lim _ _ _ _ | exact spec_l1Has.F_lim _ _ | refine Lim.ite ?_ ?_ | refine Lim.bind ?_ (fun _ => ?_))))
theorem spec_doRoot.F_eq (a0 : Int) (a1 : Int) : spec_doRoot.F a0 a1 = ((spec_l1In.f a1 2 (wrap64 (a0 - 1))).bind fun t340 => (if t340 = true then ((spec_doPowers.F a0 a1).bind fun t341 => (spec_doRoot.L0 t341 t341 (t341.length : Int) 0)) else (some false))) :=
 Lim.unique (spec_doRoot.F_lim a0 a1) (by
  unfold spec_doRoot.f
  repeat' (first | (with_reducible first | exact Lim.const _ | exact spec_doPowers.F_lim _ _ | exact spec_doRoot.L0_lim _ _ _ _ | refine Lim.ite ?_ ?_ | refine Lim.bind ?_ (fun _ => ?_))))

end Go.Proofs.Ytadhfbchilaklaa.Fn
namespace Go.Proofs.Ytadhfbchilaklaa.Fn
open Go.RowKit Go.Proofs.YtadhfbchilaklaaW.PrintWords Go.Proofs.YtadhfbchilaklaaW.PrintLast Go.Proofs.YtadhfbchilaklaaW.PrintMore
attribute [local go_sem] max2_int min2_int max_two min_two max_three min_three max_four min_four   -- for this text's walks alone
set_option linter.unusedVariables false
set_option linter.unusedSimpArgs false

/-! ### spec_LogsDots: function 56 -/
mutual
def spec_LogsDots.j0 : Nat → Int → Int → Int → Bool → Option (List Int × Bool)
 | 0, _, _, _, _ => none
 | k + 1, x0, x1, x2, x31 => if x31 = true then (some (([] : List Int), false)) else ((spec_doPowers.f k x0 x1).bind fun t362 => ((spec_doPowers.f k x0 x2).bind fun t365 => (spec_LogsDots.l0 k x0 t362 t365 ([] : List Int) 1)))
def spec_LogsDots.l0 : Nat → Int → List Int → List Int → List Int → Int → Option (List Int × Bool)
 | 0, _, _, _, _, _ => none
 | k + 1, x0, x8, x9, x10, x11 => if x11 ≤ (wrap64 (x0 - 2)) then (spec_LogsDots.l1 k x0 x8 x9 x10 x11 1) else (some (x10, true))
def spec_LogsDots.l1 : Nat → Int → List Int → List Int → List Int → Int → Int → Option (List Int × Bool)
 | 0, _, _, _, _, _, _ => none
 | k + 1, x0, x8, x9, x10, x11, x12 => if x12 ≤ (wrap64 (x0 - 2)) then (if 0 ≤ x11 then (if x11 < (x8.length : Int) then (if 0 ≤ x12 then (if x12 < (x9.length : Int) then (if x0 = 0 then (none) else (if (Int.tmod (wrap64 ((rd x8 x11) + (rd x9 x12))) x0) = 1 then (if x10.length < 17592186044416 then (spec_LogsDots.l1 k x0 x8 x9 (x10 ++ [wrap64 (x12 - 1)]) x11 (wrap64 (x12 + 1))) else (none)) else (spec_LogsDots.l1 k x0 x8 x9 x10 x11 (wrap64 (x12 + 1))))) else (none)) else (none)) else (none)) else (none)) else (spec_LogsDots.l0 k x0 x8 x9 x10 (wrap64 (x11 + 1)))
end
def spec_LogsDots.f (k : Nat) (a0 : Int) (a1 : Int) (a2 : Int) : Option (List Int × Bool) := (spec_doPrime.f k a0).bind fun t359 => (if t359 = true then (if a0 < 5 then (spec_LogsDots.j0 k a0 a1 a2 true) else ((spec_doRoot.f k a0 a1).bind fun t360 => (if t360 = true then ((spec_doRoot.f k a0 a2).bind fun t361 => (spec_LogsDots.j0 k a0 a1 a2 (!t361))) else (spec_LogsDots.j0 k a0 a1 a2 true)))) else (spec_LogsDots.j0 k a0 a1 a2 true))
theorem spec_LogsDots.mono_l : ∀ k, (∀ y0 y1 y2 y3, LeO (spec_LogsDots.j0 k y0 y1 y2 y3) (spec_LogsDots.j0 (k + 1) y0 y1 y2 y3)) ∧ (∀ y0 y1 y2 y3 y4, LeO (spec_LogsDots.l0 k y0 y1 y2 y3 y4) (spec_LogsDots.l0 (k + 1) y0 y1 y2 y3 y4)) ∧ (∀ y0 y1 y2 y3 y4 y5, LeO (spec_LogsDots.l1 k y0 y1 y2 y3 y4 y5) (spec_LogsDots.l1 (k + 1) y0 y1 y2 y3 y4 y5))
 | 0 => ⟨fun _ _ _ _ r h => by simp [spec_LogsDots.j0] at h, fun _ _ _ _ _ r h => by simp [spec_LogsDots.l0] at h, fun _ _ _ _ _ _ r h => by simp [spec_LogsDots.l1] at h⟩
 | k + 1 => by
  obtain ⟨ih0, ih1, ih2⟩ := spec_LogsDots.mono_l k
  refine ⟨?_, ?_, ?_⟩
  ·intro y0 y1 y2 y3
   unfold spec_LogsDots.j0
   repeat' (first | (with_reducible first | exact ih1 _ _ _ _ _ | exact spec_doPowers.mono _ _ _ | exact LeO.refl _ | exact LeO.none _ | refine LeO.ite ?_ ?_ | refine LeO.bind ?_ (fun _ => ?_)) | exact ih1 _ _ _ _ _ | exact spec_doPowers.mono _ _ _ | exact LeO.none _ | refine LeO.ite ?_ ?_ | refine LeO.bind ?_ (fun _ => ?_))
  ·intro y0 y1 y2 y3 y4
   unfold spec_LogsDots.l0
   repeat' (first | (with_reducible first | exact ih2 _ _ _ _ _ _ | exact LeO.refl _ | exact LeO.none _ | refine LeO.ite ?_ ?_ | refine LeO.bind ?_ (fun _ => ?_)) | exact ih2 _ _ _ _ _ _ | exact LeO.none _ | refine LeO.ite ?_ ?_ | refine LeO.bind ?_ (fun _ => ?_))
  ·intro y0 y1 y2 y3 y4 y5
   unfold spec_LogsDots.l1
   repeat' (first | (with_reducible first | exact ih1 _ _ _ _ _ | exact ih2 _ _ _ _ _ _ | exact LeO.refl _ | exact LeO.none _ | refine LeO.ite ?_ ?_ | refine LeO.bind ?_ (fun _ => ?_)) | exact ih1 _ _ _ _ _ | exact ih2 _ _ _ _ _ _ | exact LeO.none _ | refine LeO.ite ?_ ?_ | refine LeO.bind ?_ (fun _ => ?_))
theorem spec_LogsDots.mono : ∀ a0 a1 a2 k, LeO (spec_LogsDots.f k a0 a1 a2) (spec_LogsDots.f (k + 1) a0 a1 a2) := by
 intro a0 a1 a2 k
 obtain ⟨ih0, ih1, ih2⟩ := spec_LogsDots.mono_l k
 unfold spec_LogsDots.f
 repeat' (first | (with_reducible first | exact ih0 _ _ _ _ | exact spec_doPrime.mono _ _ | exact spec_doRoot.mono _ _ _ | exact LeO.refl _ | exact LeO.none _ | refine LeO.ite ?_ ?_ | refine LeO.bind ?_ (fun _ => ?_)) | exact ih0 _ _ _ _ | exact spec_doPrime.mono _ _ | exact spec_doRoot.mono _ _ _ | exact LeO.none _ | refine LeO.ite ?_ ?_ | refine LeO.bind ?_ (fun _ => ?_))
set_option maxHeartbeats 8000000 in
set_option maxRecDepth 100000 in
theorem spec_LogsDots.calls (k : Nat) (a0 : Int) (a1 : Int) (a2 : Int) (r1 : List Int) (r2 : Bool) (w : World) (h : spec_LogsDots.f k a0 a1 a2 = some (r1, r2)) :
  Calls Try.prog 56 #[.int .i64 a0, .int .i64 a1, .int .i64 a2] w fun e w' => ∃ v0_ : Value, e = .returned (.tuple #[v0_, .bool r2]) ∧ Kd.R (Kd.int .i64) 3 w' w.heap.size (fun _ => True) v0_ r1 ∧ Below w.heap.size w w' := by
 have HB := Aside0.mk (Below.refl w.heap.size w)
 have H := h
 unfold spec_LogsDots.f at H
 clear h
 have HC4 := Aside0.mk H
 clear H
 go_enter Try.func56, Try.ntmps56
 go_upto_region 1 with (fail)
 repeat (go_quiet (fail); go_upto_region 1 with (fail))
 go_cut [31] (fun v31 wc => ∃ (kq : Nat) (x31_3 : Bool), v31 = .bool x31_3 ∧ Aside0 (spec_LogsDots.j0 kq a0 a1 a2 x31_3 = some (r1, r2)) ∧ Aside0 (kq ≤ k) ∧ Aside0 (Below w.heap.size w wc))
 case first =>
  have H := HC4.out
  clear HC4
  replace H := Option.bind_eq_some_iff.mp H
  obtain ⟨t359, A50, H⟩ := H
  replace H : (if t359 = true then (if a0 < 5 then (spec_LogsDots.j0 k a0 a1 a2 true) else ((spec_doRoot.f k a0 a1).bind fun t360 => (if t360 = true then ((spec_doRoot.f k a0 a2).bind fun t361 => (spec_LogsDots.j0 k a0 a1 a2 (!t361))) else (spec_LogsDots.j0 k a0 a1 a2 true)))) else (spec_LogsDots.j0 k a0 a1 a2 true)) = some (r1, r2) := H
  have A5 := Aside0.mk A50
  clear A50
  by_cases c6 : t359 = true
  ·subst c6
   have H1 : (if a0 < 5 then (spec_LogsDots.j0 k a0 a1 a2 true) else ((spec_doRoot.f k a0 a1).bind fun t360 => (if t360 = true then ((spec_doRoot.f k a0 a2).bind fun t361 => (spec_LogsDots.j0 k a0 a1 a2 (!t361))) else (spec_LogsDots.j0 k a0 a1 a2 true)))) = some (r1, r2) := by rw [if_pos rfl] at H; exact H
   clear H
   have H := H1
   clear H1
   by_cases c7 : a0 < 5
   ·rw [if_pos c7] at H
    have c7b0 : decide (a0 < 5) = true := decide_eq_true c7
    clear c7
    (first | rw [c7b0] | (simp only [i64_w, i32_w]; rw [c7b0]) | skip)
    have H' := Aside0.mk H
    clear H
    go_wp2_with (first | (go_at_call 173; (with_reducible refine (spec_doPrime.calls k a0 true _ A5.out).mono ?_); rintro e w8 ⟨rfl, hb⟩; replace HB := upB HB hb; (try clear hb); (try clear hb2); (try clear hk); (try clear hi)))
    repeat (go_quiet (first | (go_at_call 173; (with_reducible refine (spec_doPrime.calls k a0 true _ A5.out).mono ?_); rintro e w8 ⟨rfl, hb⟩; replace HB := upB HB hb; (try clear hb); (try clear hb2); (try clear hk); (try clear hi))); try go_wp2_with (first | (go_at_call 173; (with_reducible refine (spec_doPrime.calls k a0 true _ A5.out).mono ?_); rintro e w8 ⟨rfl, hb⟩; replace HB := upB HB hb; (try clear hb); (try clear hb2); (try clear hk); (try clear hi))))
    go_meet
    case rel => exact ⟨_, (true), eqd, H', ⟨leD⟩, ⟨atB HB⟩⟩
   ·rw [if_neg c7] at H
    have c7b0 : decide (a0 < 5) = false := decide_eq_false c7
    clear c7
    (first | rw [c7b0] | (simp only [i64_w, i32_w]; rw [c7b0]) | skip)
    replace H := Option.bind_eq_some_iff.mp H
    obtain ⟨t360, A90, H⟩ := H
    replace H : (if t360 = true then ((spec_doRoot.f k a0 a2).bind fun t361 => (spec_LogsDots.j0 k a0 a1 a2 (!t361))) else (spec_LogsDots.j0 k a0 a1 a2 true)) = some (r1, r2) := H
    have A9 := Aside0.mk A90
    clear A90
    by_cases c10 : t360 = true
    ·subst c10
     have H1 : ((spec_doRoot.f k a0 a2).bind fun t361 => (spec_LogsDots.j0 k a0 a1 a2 (!t361))) = some (r1, r2) := by rw [if_pos rfl] at H; exact H
     clear H
     have H := H1
     clear H1
     replace H := Option.bind_eq_some_iff.mp H
     obtain ⟨t361, A110, H⟩ := H
     replace H : (spec_LogsDots.j0 k a0 a1 a2 (!t361)) = some (r1, r2) := H
     have A11 := Aside0.mk A110
     clear A110
     have H' := Aside0.mk H
     clear H
     go_wp2_with (first | (go_at_call 173; (with_reducible refine (spec_doPrime.calls k a0 true _ A5.out).mono ?_); rintro e w12 ⟨rfl, hb⟩; replace HB := upB HB hb; (try clear hb); (try clear hb2); (try clear hk); (try clear hi)) | (go_at_call 174; (with_reducible refine (spec_doRoot.calls k a0 a1 true _ A9.out).mono ?_); rintro e w13 ⟨rfl, hb⟩; replace HB := upB HB hb; (try clear hb); (try clear hb2); (try clear hk); (try clear hi)) | (go_at_call 174; (with_reducible refine (spec_doRoot.calls k a0 a2 t361 _ A11.out).mono ?_); rintro e w14 ⟨rfl, hb⟩; replace HB := upB HB hb; (try clear hb); (try clear hb2); (try clear hk); (try clear hi)))
     repeat (go_quiet (first | (go_at_call 173; (with_reducible refine (spec_doPrime.calls k a0 true _ A5.out).mono ?_); rintro e w12 ⟨rfl, hb⟩; replace HB := upB HB hb; (try clear hb); (try clear hb2); (try clear hk); (try clear hi)) | (go_at_call 174; (with_reducible refine (spec_doRoot.calls k a0 a1 true _ A9.out).mono ?_); rintro e w13 ⟨rfl, hb⟩; replace HB := upB HB hb; (try clear hb); (try clear hb2); (try clear hk); (try clear hi)) | (go_at_call 174; (with_reducible refine (spec_doRoot.calls k a0 a2 t361 _ A11.out).mono ?_); rintro e w14 ⟨rfl, hb⟩; replace HB := upB HB hb; (try clear hb); (try clear hb2); (try clear hk); (try clear hi))); try go_wp2_with (first | (go_at_call 173; (with_reducible refine (spec_doPrime.calls k a0 true _ A5.out).mono ?_); rintro e w12 ⟨rfl, hb⟩; replace HB := upB HB hb; (try clear hb); (try clear hb2); (try clear hk); (try clear hi)) | (go_at_call 174; (with_reducible refine (spec_doRoot.calls k a0 a1 true _ A9.out).mono ?_); rintro e w13 ⟨rfl, hb⟩; replace HB := upB HB hb; (try clear hb); (try clear hb2); (try clear hk); (try clear hi)) | (go_at_call 174; (with_reducible refine (spec_doRoot.calls k a0 a2 t361 _ A11.out).mono ?_); rintro e w14 ⟨rfl, hb⟩; replace HB := upB HB hb; (try clear hb); (try clear hb2); (try clear hk); (try clear hi))))
     go_meet
     case rel => exact ⟨_, (!t361), eqd, H', ⟨leD⟩, ⟨atB HB⟩⟩
    ·replace c10 := Bool.eq_false_iff.mpr c10
     subst c10
     have H1 : (spec_LogsDots.j0 k a0 a1 a2 true) = some (r1, r2) := by rw [if_neg (show ¬ (false = true) by decide)] at H; exact H
     clear H
     have H := H1
     clear H1
     have H' := Aside0.mk H
     clear H
     go_wp2_with (first | (go_at_call 173; (with_reducible refine (spec_doPrime.calls k a0 true _ A5.out).mono ?_); rintro e w15 ⟨rfl, hb⟩; replace HB := upB HB hb; (try clear hb); (try clear hb2); (try clear hk); (try clear hi)) | (go_at_call 174; (with_reducible refine (spec_doRoot.calls k a0 a1 false _ A9.out).mono ?_); rintro e w16 ⟨rfl, hb⟩; replace HB := upB HB hb; (try clear hb); (try clear hb2); (try clear hk); (try clear hi)))
     repeat (go_quiet (first | (go_at_call 173; (with_reducible refine (spec_doPrime.calls k a0 true _ A5.out).mono ?_); rintro e w15 ⟨rfl, hb⟩; replace HB := upB HB hb; (try clear hb); (try clear hb2); (try clear hk); (try clear hi)) | (go_at_call 174; (with_reducible refine (spec_doRoot.calls k a0 a1 false _ A9.out).mono ?_); rintro e w16 ⟨rfl, hb⟩; replace HB := upB HB hb; (try clear hb); (try clear hb2); (try clear hk); (try clear hi))); try go_wp2_with (first | (go_at_call 173; (with_reducible refine (spec_doPrime.calls k a0 true _ A5.out).mono ?_); rintro e w15 ⟨rfl, hb⟩; replace HB := upB HB hb; (try clear hb); (try clear hb2); (try clear hk); (try clear hi)) | (go_at_call 174; (with_reducible refine (spec_doRoot.calls k a0 a1 false _ A9.out).mono ?_); rintro e w16 ⟨rfl, hb⟩; replace HB := upB HB hb; (try clear hb); (try clear hb2); (try clear hk); (try clear hi))))
     go_meet
     case rel => exact ⟨_, (true), eqd, H', ⟨leD⟩, ⟨atB HB⟩⟩
  ·replace c6 := Bool.eq_false_iff.mpr c6
   subst c6
   have H1 : (spec_LogsDots.j0 k a0 a1 a2 true) = some (r1, r2) := by rw [if_neg (show ¬ (false = true) by decide)] at H; exact H
   clear H
   have H := H1
   clear H1
   have H' := Aside0.mk H
   clear H
   go_wp2_with (first | (go_at_call 173; (with_reducible refine (spec_doPrime.calls k a0 false _ A5.out).mono ?_); rintro e w17 ⟨rfl, hb⟩; replace HB := upB HB hb; (try clear hb); (try clear hb2); (try clear hk); (try clear hi)))
   repeat (go_quiet (first | (go_at_call 173; (with_reducible refine (spec_doPrime.calls k a0 false _ A5.out).mono ?_); rintro e w17 ⟨rfl, hb⟩; replace HB := upB HB hb; (try clear hb); (try clear hb2); (try clear hk); (try clear hi))); try go_wp2_with (first | (go_at_call 173; (with_reducible refine (spec_doPrime.calls k a0 false _ A5.out).mono ?_); rintro e w17 ⟨rfl, hb⟩; replace HB := upB HB hb; (try clear hb); (try clear hb2); (try clear hk); (try clear hi))))
   go_meet
   case rel => exact ⟨_, (true), eqd, H', ⟨leD⟩, ⟨atB HB⟩⟩
 case rest =>
  clear HC4
  try clear c1
  try clear p2
  try clear c5
  try clear c6
  try clear c7
  try clear c7b0
  try clear c10
  obtain ⟨kq, x31_3, rfl, HA, HJ3, HB⟩ := hcut
  cases kq with
  | zero => exact absurd HA.out (by simp [spec_LogsDots.j0])
  | succ kj3 =>
   have H := HA.out
   clear HA
   simp only [spec_LogsDots.j0] at H
   by_cases c18 : x31_3 = true
   ·subst c18
    have H1 : (some (([] : List Int), false)) = some (r1, r2) := by rw [if_pos rfl] at H; exact H
    clear H
    have H := H1
    clear H1
    simp only [Option.some.injEq, Prod.mk.injEq] at H
    obtain ⟨rfl, rfl⟩ := H
    go_wp2
    repeat (go_quiet (fail); try go_wp2)
    go_ret2
    exact ⟨_, eqr, by first | exact Kd.R_nil _ _ _ _ _ | exact Kd.N_nil _ _ _ _ _ | exact Kd.V_nil _ _ _ _ _ | exact Kd.Q_nil _ _ _ _ _ | exact Kd.S_nil _ _ _ _ _, atB HB⟩
   ·replace c18 := Bool.eq_false_iff.mpr c18
    subst c18
    have H1 : ((spec_doPowers.f kj3 a0 a1).bind fun t362 => ((spec_doPowers.f kj3 a0 a2).bind fun t365 => (spec_LogsDots.l0 kj3 a0 t362 t365 ([] : List Int) 1))) = some (r1, r2) := by rw [if_neg (show ¬ (false = true) by decide)] at H; exact H
    clear H
    have H := H1
    clear H1
    replace H := Option.bind_eq_some_iff.mp H
    obtain ⟨t362, A190, H⟩ := H
    replace H : ((spec_doPowers.f kj3 a0 a2).bind fun t365 => (spec_LogsDots.l0 kj3 a0 t362 t365 ([] : List Int) 1)) = some (r1, r2) := H
    have A19 := Aside0.mk A190
    clear A190
    replace H := Option.bind_eq_some_iff.mp H
    obtain ⟨t365, A200, H⟩ := H
    replace H : (spec_LogsDots.l0 kj3 a0 t362 t365 ([] : List Int) 1) = some (r1, r2) := H
    have A20 := Aside0.mk A200
    clear A200
    have H' := Aside0.mk H
    clear H
    go_wp2_with (first | (go_at_call 175; (with_reducible refine (spec_doPowers.calls kj3 a0 a1 t362 _ A19.out).mono ?_); rintro e w21 ⟨v363, rfl, ho0, hb⟩; have HO364 := lowR ho0 HB; replace HB := upB HB hb; (try clear hb); (try clear hb2); (try clear hk); (try clear hi); (try clear ho0)) | (go_at_call 175; (with_reducible refine (spec_doPowers.calls kj3 a0 a2 t365 _ A20.out).mono ?_); rintro e w22 ⟨v366, rfl, ho0, hb⟩; have HO367 := Aside0.mk (Kd.R_lower (Kd.R_new' ho0 (ltR HO364)) (szB HB)); replace HO364 := eldRR HO364 ho0 hb; replace HB := upB HB hb; (try clear hb); (try clear hb2); (try clear hk); (try clear hi); (try clear ho0)))
    repeat (go_quiet (first | (go_at_call 175; (with_reducible refine (spec_doPowers.calls kj3 a0 a1 t362 _ A19.out).mono ?_); rintro e w21 ⟨v363, rfl, ho0, hb⟩; have HO364 := lowR ho0 HB; replace HB := upB HB hb; (try clear hb); (try clear hb2); (try clear hk); (try clear hi); (try clear ho0)) | (go_at_call 175; (with_reducible refine (spec_doPowers.calls kj3 a0 a2 t365 _ A20.out).mono ?_); rintro e w22 ⟨v366, rfl, ho0, hb⟩; have HO367 := Aside0.mk (Kd.R_lower (Kd.R_new' ho0 (ltR HO364)) (szB HB)); replace HO364 := eldRR HO364 ho0 hb; replace HB := upB HB hb; (try clear hb); (try clear hb2); (try clear hk); (try clear hi); (try clear ho0))); try go_wp2_with (first | (go_at_call 175; (with_reducible refine (spec_doPowers.calls kj3 a0 a1 t362 _ A19.out).mono ?_); rintro e w21 ⟨v363, rfl, ho0, hb⟩; have HO364 := lowR ho0 HB; replace HB := upB HB hb; (try clear hb); (try clear hb2); (try clear hk); (try clear hi); (try clear ho0)) | (go_at_call 175; (with_reducible refine (spec_doPowers.calls kj3 a0 a2 t365 _ A20.out).mono ?_); rintro e w22 ⟨v366, rfl, ho0, hb⟩; have HO367 := Aside0.mk (Kd.R_lower (Kd.R_new' ho0 (ltR HO364)) (szB HB)); replace HO364 := eldRR HO364 ho0 hb; replace HB := upB HB hb; (try clear hb); (try clear hb2); (try clear hk); (try clear hi); (try clear ho0))))
    go_loopg [10, 11] kj3 (fun kq v10 v11 w' => ∃ (x10_2 : List Int) (x11_2 : Int), v11 = .int .i64 x11_2 ∧ Aside0 (spec_LogsDots.l0 kq a0 t362 t365 x10_2 x11_2 = some (r1, r2)) ∧ Aside0 (kq ≤ kj3) ∧ Aside0 (Kd.R (Kd.int .i64) 3 w' w.heap.size (fun k_ => some k_ ≠ (v366 : Value).ownBlock ∧ some k_ ≠ (v10 : Value).ownBlock) v363 t362) ∧ Aside0 (Kd.R (Kd.int .i64) 3 w' w.heap.size (fun k_ => some k_ ≠ (v363 : Value).ownBlock ∧ some k_ ≠ (v10 : Value).ownBlock) v366 t365) ∧ Aside0 (Kd.R (Kd.int .i64) 3 w' w.heap.size (fun k_ => some k_ ≠ (v363 : Value).ownBlock ∧ some k_ ≠ (v366 : Value).ownBlock) v10 x10_2) ∧ Aside0 (Below w.heap.size w w'))
    case atStart => exact ⟨(([] : List Int)), (1), eqd, H', ⟨Nat.le_refl _⟩, ⟨by (with_reducible repeat (first | apply Kd.R_alloc | apply Kd.R_drewN | apply Kd.R_drew)); exact Kd.R_mono HO364.out (fun _ hk => ⟨hk.2, (by simp [Value.ownBlock])⟩)⟩, ⟨by (with_reducible repeat (first | apply Kd.R_alloc | apply Kd.R_drewN | apply Kd.R_drew)); exact Kd.R_mono HO367.out (fun _ hk => ⟨hk.2, (by simp [Value.ownBlock])⟩)⟩, ⟨by first | exact Kd.R_nil _ _ _ _ _ | exact Kd.N_nil _ _ _ _ _ | exact Kd.V_nil _ _ _ _ _ | exact Kd.Q_nil _ _ _ _ _ | exact Kd.S_nil _ _ _ _ _⟩, ⟨atB HB⟩⟩
    case round =>
     clear H'
     try clear c1
     try clear p2
     try clear c5
     try clear c6
     try clear c7
     try clear c7b0
     try clear c10
     try clear c18
     try clear p2
     obtain ⟨x10_2, x11_2, rfl, HA, HK2, HO_8, HO_9, HO_10, HB⟩ := hrel
     cases gk with
     | zero => exact absurd HA.out (by simp [spec_LogsDots.l0])
     | succ k2 =>
      have H := HA.out
      clear HA
      simp only [spec_LogsDots.l0] at H
      by_cases c23 : x11_2 ≤ (wrap64 (a0 - 2))
      ·rw [if_pos c23] at H
       have c23b0 : decide (x11_2 ≤ (wrap64 (a0 - 2))) = true := decide_eq_true c23
       clear c23
       have H' := Aside0.mk H
       clear H
       go_wp2
       repeat (go_quiet (fail); try go_wp2)
       go_loopg [10, 12] k2 (fun kq v10 v12 w' => ∃ (x10_3 : List Int) (x12_3 : Int), v12 = .int .i64 x12_3 ∧ Aside0 (spec_LogsDots.l1 kq a0 t362 t365 x10_3 x11_2 x12_3 = some (r1, r2)) ∧ Aside0 (kq ≤ k2) ∧ Aside0 (Kd.R (Kd.int .i64) 3 w' w.heap.size (fun k_ => some k_ ≠ (v366 : Value).ownBlock ∧ some k_ ≠ (v10 : Value).ownBlock) v363 t362) ∧ Aside0 (Kd.R (Kd.int .i64) 3 w' w.heap.size (fun k_ => some k_ ≠ (v363 : Value).ownBlock ∧ some k_ ≠ (v10 : Value).ownBlock) v366 t365) ∧ Aside0 (Kd.R (Kd.int .i64) 3 w' w.heap.size (fun k_ => some k_ ≠ (v363 : Value).ownBlock ∧ some k_ ≠ (v366 : Value).ownBlock) v10 x10_3) ∧ Aside0 (Below w.heap.size w w'))
       case atStart => exact ⟨(x10_2), (1), eqd, H', ⟨Nat.le_refl _⟩, ⟨atR HO_8⟩, ⟨atR HO_9⟩, ⟨atR HO_10⟩, ⟨atB HB⟩⟩
       case round =>
        clear H'
        try clear c1
        try clear c2
        try clear p2
        try clear c5
        try clear c6
        try clear p6
        try clear c7
        try clear c7b0
        try clear c10
        try clear c18
        try clear c23
        try clear c23b0
        try clear p2
        obtain ⟨x10_3, x12_3, rfl, HA, HK3, HO_8, HO_9, HO_10, HB⟩ := hrel
        cases gk with
        | zero => exact absurd HA.out (by simp [spec_LogsDots.l1])
        | succ k3 =>
         have H := HA.out
         clear HA
         simp only [spec_LogsDots.l1] at H
         by_cases c24 : x12_3 ≤ (wrap64 (a0 - 2))
         ·rw [if_pos c24] at H
          have c24b0 : decide (x12_3 ≤ (wrap64 (a0 - 2))) = true := decide_eq_true c24
          clear c24
          by_cases c25 : 0 ≤ x11_2
          ·rw [if_pos c25] at H
           have c25b0 : decide (0 ≤ x11_2) = true := decide_eq_true c25
           clear c25
           by_cases c26 : x11_2 < (t362.length : Int)
           ·rw [if_pos c26] at H
            have c26b0 : decide (x11_2 < (t362.length : Int)) = true := decide_eq_true c26
            clear c26
            by_cases c27 : 0 ≤ x12_3
            ·rw [if_pos c27] at H
             have c27b0 : decide (0 ≤ x12_3) = true := decide_eq_true c27
             clear c27
             by_cases c28 : x12_3 < (t365.length : Int)
             ·rw [if_pos c28] at H
              have c28b0 : decide (x12_3 < (t365.length : Int)) = true := decide_eq_true c28
              clear c28
              by_cases c29 : a0 = 0
              ·rw [if_pos c29] at H
               exact absurd H (by simp)
              ·rw [if_neg c29] at H
               have c29b0 : (a0 == 0) = false := beq_eq_false_iff_ne.mpr c29
               have c29b1 : (a0 != 0) = true := bne_iff_ne.mpr c29
               by_cases c30 : (Int.tmod (wrap64 ((rd t362 x11_2) + (rd t365 x12_3))) a0) = 1
               ·rw [if_pos c30] at H
                have c30b0 : ((Int.tmod (wrap64 ((rd t362 x11_2) + (rd t365 x12_3))) a0) == 1) = true := beq_iff_eq.mpr c30
                have c30b1 : ((Int.tmod (wrap64 ((rd t362 x11_2) + (rd t365 x12_3))) a0) != 1) = false := bne_eq_false_iff_eq.mpr c30
                clear c30
                by_cases c31 : x10_3.length < 17592186044416
                ·rw [if_pos c31] at H
                 have LMc31 := Aside0.mk c31
                 clear c31
                 obtain ⟨y370, hy370⟩ : ∃ y_ : List Int, y_ = (x10_3 ++ [wrap64 (x12_3 - 1)]) := ⟨_, rfl⟩
                 replace H : (spec_LogsDots.l1 k3 a0 t362 t365 y370 x11_2 (wrap64 (x12_3 + 1))) = some (r1, r2) := by first | (rw [hy370]; with_reducible exact H) | (have H2_ := (Option.bind_some _ _).symm.trans H; rw [hy370]; with_reducible exact H2_) | (have H2_ := (Option.bind_some _ _).symm.trans H; with_reducible exact H2_) | with_reducible exact H | (rw [hy370]; exact H) | exact H
                 have Ny370 := Aside0.mk hy370
                 clear hy370
                 have H' := Aside0.mk H
                 clear H
                 obtain ⟨Ao32, co32, eo32⟩ := Kd.R_slice HO_8.out
                 subst eo32
                 have p368 : 0 ≤ (x11_2 : Int) := ofd
                 have q368 : x11_2 < (t362.length : Int) := ofd
                 obtain ⟨ad368, e368, hx368_0⟩ := Kd.at_int (Kd.R_reads' HO_8.out).2.2 x11_2 p368 q368
                 cases e368
                 replace p368 := eq_true p368
                 replace q368 := eq_true q368
                 obtain ⟨Ao33, co33, eo33⟩ := Kd.R_slice HO_9.out
                 subst eo33
                 have p369 : 0 ≤ (x12_3 : Int) := ofd
                 have q369 : x12_3 < (t365.length : Int) := ofd
                 obtain ⟨ad369, e369, hx369_0⟩ := Kd.at_int (Kd.R_reads' HO_9.out).2.2 x12_3 p369 q369
                 cases e369
                 replace p369 := eq_true p369
                 replace q369 := eq_true q369
                 go_wp2_with (first | ((with_reducible refine gate_builtin (b := .append) (xs := #[.tmp 62, .tmp 65]) rfl ?_); at_builtin; refine Kd.R_append (Kd.int .i64) (w0 := w) w.heap.size rfl (.tmp 62) (.tmp 65) 24 3 (.int .i64 0) 8 rfl Try.underlying24 info3 rfl (by decide) (by omega) u10 x10_3 (wrap64 (x12_3 - 1)) [.int .i64 (wrap64 (x12_3 - 1))] (fun k_ => some k_ ≠ (.slice (some ad368) t362.length co32 : Value).ownBlock ∧ some k_ ≠ (.slice (some ad369) t365.length co33 : Value).ownBlock) (fun _ => False) rfl rfl ?aP (fun _ hk => hk.elim) ?aF ?aO ?aB ?aS ?aL ?_; (case aP => exact rfl); (case aB => exact (atB HB)); (case aF => exact (fun k_ hk => ⟨Kd.fresh' (ltR HO_8) k_ hk, Kd.fresh' (ltR HO_9) k_ hk⟩)); (case aO => exact (atR HO_10)); (case aS => exact (szB HB)); (case aL => have := LMc31.out; omega); intro v371 w34 ho hb hg hat; rw [← Ny370.out] at ho; have HO372 := Aside0.mk (ho); replace HO_8 := Aside0.mk (Kd.R_after (ok := (fun k_ => some k_ ≠ (.slice (some ad369) t365.length co33 : Value).ownBlock)) (atR HO_8) hg hat); replace HO_9 := Aside0.mk (Kd.R_after (ok := (fun k_ => some k_ ≠ (.slice (some ad368) t362.length co32 : Value).ownBlock)) (atR HO_9) hg hat); replace HB := Aside0.mk (hb); clear HO_10; clear ho hb hg hat))
                 repeat (go_quiet (first | ((with_reducible refine gate_builtin (b := .append) (xs := #[.tmp 62, .tmp 65]) rfl ?_); at_builtin; refine Kd.R_append (Kd.int .i64) (w0 := w) w.heap.size rfl (.tmp 62) (.tmp 65) 24 3 (.int .i64 0) 8 rfl Try.underlying24 info3 rfl (by decide) (by omega) u10 x10_3 (wrap64 (x12_3 - 1)) [.int .i64 (wrap64 (x12_3 - 1))] (fun k_ => some k_ ≠ (.slice (some ad368) t362.length co32 : Value).ownBlock ∧ some k_ ≠ (.slice (some ad369) t365.length co33 : Value).ownBlock) (fun _ => False) rfl rfl ?aP (fun _ hk => hk.elim) ?aF ?aO ?aB ?aS ?aL ?_; (case aP => exact rfl); (case aB => exact (atB HB)); (case aF => exact (fun k_ hk => ⟨Kd.fresh' (ltR HO_8) k_ hk, Kd.fresh' (ltR HO_9) k_ hk⟩)); (case aO => exact (atR HO_10)); (case aS => exact (szB HB)); (case aL => have := LMc31.out; omega); intro v371 w34 ho hb hg hat; rw [← Ny370.out] at ho; have HO372 := Aside0.mk (ho); replace HO_8 := Aside0.mk (Kd.R_after (ok := (fun k_ => some k_ ≠ (.slice (some ad369) t365.length co33 : Value).ownBlock)) (atR HO_8) hg hat); replace HO_9 := Aside0.mk (Kd.R_after (ok := (fun k_ => some k_ ≠ (.slice (some ad368) t362.length co32 : Value).ownBlock)) (atR HO_9) hg hat); replace HB := Aside0.mk (hb); clear HO_10; clear ho hb hg hat)); try go_wp2_with (first | ((with_reducible refine gate_builtin (b := .append) (xs := #[.tmp 62, .tmp 65]) rfl ?_); at_builtin; refine Kd.R_append (Kd.int .i64) (w0 := w) w.heap.size rfl (.tmp 62) (.tmp 65) 24 3 (.int .i64 0) 8 rfl Try.underlying24 info3 rfl (by decide) (by omega) u10 x10_3 (wrap64 (x12_3 - 1)) [.int .i64 (wrap64 (x12_3 - 1))] (fun k_ => some k_ ≠ (.slice (some ad368) t362.length co32 : Value).ownBlock ∧ some k_ ≠ (.slice (some ad369) t365.length co33 : Value).ownBlock) (fun _ => False) rfl rfl ?aP (fun _ hk => hk.elim) ?aF ?aO ?aB ?aS ?aL ?_; (case aP => exact rfl); (case aB => exact (atB HB)); (case aF => exact (fun k_ hk => ⟨Kd.fresh' (ltR HO_8) k_ hk, Kd.fresh' (ltR HO_9) k_ hk⟩)); (case aO => exact (atR HO_10)); (case aS => exact (szB HB)); (case aL => have := LMc31.out; omega); intro v371 w34 ho hb hg hat; rw [← Ny370.out] at ho; have HO372 := Aside0.mk (ho); replace HO_8 := Aside0.mk (Kd.R_after (ok := (fun k_ => some k_ ≠ (.slice (some ad369) t365.length co33 : Value).ownBlock)) (atR HO_8) hg hat); replace HO_9 := Aside0.mk (Kd.R_after (ok := (fun k_ => some k_ ≠ (.slice (some ad368) t362.length co32 : Value).ownBlock)) (atR HO_9) hg hat); replace HB := Aside0.mk (hb); clear HO_10; clear ho hb hg hat)))
                 go_roundg k3
                 case measure => have := HJ3.out; have := HK2.out; have := HK3.out; omega
                 case rel => exact ⟨(y370), (wrap64 (x12_3 + 1)), eqd, H', ⟨by have := HJ3.out; have := HK2.out; have := HK3.out; omega⟩, ⟨atR HO_8⟩, ⟨atR HO_9⟩, ⟨atR HO372⟩, ⟨atB HB⟩⟩
                ·rw [if_neg c31] at H
                 exact absurd H (by simp)
               ·rw [if_neg c30] at H
                have c30b0 : ((Int.tmod (wrap64 ((rd t362 x11_2) + (rd t365 x12_3))) a0) == 1) = false := beq_eq_false_iff_ne.mpr c30
                have c30b1 : ((Int.tmod (wrap64 ((rd t362 x11_2) + (rd t365 x12_3))) a0) != 1) = true := bne_iff_ne.mpr c30
                have H' := Aside0.mk H
                clear H
                obtain ⟨Ao35, co35, eo35⟩ := Kd.R_slice HO_8.out
                subst eo35
                have p368 : 0 ≤ (x11_2 : Int) := ofd
                have q368 : x11_2 < (t362.length : Int) := ofd
                obtain ⟨ad368, e368, hx368_0⟩ := Kd.at_int (Kd.R_reads' HO_8.out).2.2 x11_2 p368 q368
                cases e368
                replace p368 := eq_true p368
                replace q368 := eq_true q368
                obtain ⟨Ao36, co36, eo36⟩ := Kd.R_slice HO_9.out
                subst eo36
                have p369 : 0 ≤ (x12_3 : Int) := ofd
                have q369 : x12_3 < (t365.length : Int) := ofd
                obtain ⟨ad369, e369, hx369_0⟩ := Kd.at_int (Kd.R_reads' HO_9.out).2.2 x12_3 p369 q369
                cases e369
                replace p369 := eq_true p369
                replace q369 := eq_true q369
                go_wp2
                repeat (go_quiet (fail); try go_wp2)
                go_roundg k3
                case measure => have := HJ3.out; have := HK2.out; have := HK3.out; omega
                case rel => exact ⟨(x10_3), (wrap64 (x12_3 + 1)), eqd, H', ⟨by have := HJ3.out; have := HK2.out; have := HK3.out; omega⟩, ⟨atR HO_8⟩, ⟨atR HO_9⟩, ⟨atR HO_10⟩, ⟨atB HB⟩⟩
             ·rw [if_neg c28] at H
              exact absurd H (by simp)
            ·rw [if_neg c27] at H
             exact absurd H (by simp)
           ·rw [if_neg c26] at H
            exact absurd H (by simp)
          ·rw [if_neg c25] at H
           exact absurd H (by simp)
         ·rw [if_neg c24] at H
          have c24b0 : decide (x12_3 ≤ (wrap64 (a0 - 2))) = false := decide_eq_false c24
          clear c24
          have H' := Aside0.mk H
          clear H
          go_wp2
          repeat (go_quiet (fail); try go_wp2)
          go_roundg k3
          case measure => have := HJ3.out; have := HK2.out; have := HK3.out; omega
          case rel => exact ⟨(x10_3), (wrap64 (x11_2 + 1)), eqd, H', ⟨by have := HJ3.out; have := HK2.out; have := HK3.out; omega⟩, ⟨atR HO_8⟩, ⟨atR HO_9⟩, ⟨atR HO_10⟩, ⟨atB HB⟩⟩
      ·rw [if_neg c23] at H
       have c23b0 : decide (x11_2 ≤ (wrap64 (a0 - 2))) = false := decide_eq_false c23
       clear c23
       simp only [Option.some.injEq, Prod.mk.injEq] at H
       obtain ⟨rfl, rfl⟩ := H
       go_wp2
       repeat (go_quiet (fail); try go_wp2)
       go_ret2
       exact ⟨_, eqr, by (with_reducible repeat (first | apply Kd.R_alloc | apply Kd.R_drewN | apply Kd.R_drew)); exact Kd.R_mono HO_10.out (fun _ hk => trivial), atB HB⟩

noncomputable def spec_LogsDots.J0 (x0 : Int) (x1 : Int) (x2 : Int) (x31 : Bool) : Option (List Int × Bool) := lim fun k => spec_LogsDots.j0 k x0 x1 x2 x31
theorem spec_LogsDots.J0_lim (x0 : Int) (x1 : Int) (x2 : Int) (x31 : Bool) : Lim (fun k => spec_LogsDots.j0 k x0 x1 x2 x31) (spec_LogsDots.J0 x0 x1 x2 x31) := Lim.of fun k => (spec_LogsDots.mono_l k).1 x0 x1 x2 x31
noncomputable def spec_LogsDots.L0 (x0 : Int) (x8 : List Int) (x9 : List Int) (x10 : List Int) (x11 : Int) : Option (List Int × Bool) := lim fun k => spec_LogsDots.l0 k x0 x8 x9 x10 x11
theorem spec_LogsDots.L0_lim (x0 : Int) (x8 : List Int) (x9 : List Int) (x10 : List Int) (x11 : Int) : Lim (fun k => spec_LogsDots.l0 k x0 x8 x9 x10 x11) (spec_LogsDots.L0 x0 x8 x9 x10 x11) := Lim.of fun k => (spec_LogsDots.mono_l k).2.1 x0 x8 x9 x10 x11
noncomputable def spec_LogsDots.L1 (x0 : Int) (x8 : List Int) (x9 : List Int) (x10 : List Int) (x11 : Int) (x12 : Int) : Option (List Int × Bool) := lim fun k => spec_LogsDots.l1 k x0 x8 x9 x10 x11 x12
theorem spec_LogsDots.L1_lim (x0 : Int) (x8 : List Int) (x9 : List Int) (x10 : List Int) (x11 : Int) (x12 : Int) : Lim (fun k => spec_LogsDots.l1 k x0 x8 x9 x10 x11 x12) (spec_LogsDots.L1 x0 x8 x9 x10 x11 x12) := Lim.of fun k => (spec_LogsDots.mono_l k).2.2 x0 x8 x9 x10 x11 x12
noncomputable def spec_LogsDots.F (a0 : Int) (a1 : Int) (a2 : Int) : Option (List Int × Bool) := lim fun k => spec_LogsDots.f k a0 a1 a2
theorem spec_LogsDots.F_lim (a0 : Int) (a1 : Int) (a2 : Int) : Lim (fun k => spec_LogsDots.f k a0 a1 a2) (spec_LogsDots.F a0 a1 a2) := Lim.of fun k => spec_LogsDots.mono a0 a1 a2 k
theorem spec_LogsDots.J0_eq (x0 : Int) (x1 : Int) (x2 : Int) (x31 : Bool) : spec_LogsDots.J0 x0 x1 x2 x31 = (if x31 = true then (some (([] : List Int), false)) else ((spec_doPowers.F x0 x1).bind fun t362 => ((spec_doPowers.F x0 x2).bind fun t365 => (spec_LogsDots.L0 x0 t362 t365 ([] : List Int) 1)))) :=
 Lim.step (f := fun k => spec_LogsDots.j0 (k + 1) x0 x1 x2 x31) (spec_LogsDots.J0_lim x0 x1 x2 x31) (fun _ => rfl) (by
  simp only [spec_LogsDots.j0]
  repeat' (first | (with_reducible first | exact Lim.const _ | exact spec_LogsDots.L0_lim _ _ _ _ _ | exact spec_doPowers.F_lim _ _ | refine Lim.ite ?_ ?_ | refine Lim.bind ?_ (fun _ => ?_))))
theorem spec_LogsDots.L0_eq (x0 : Int) (x8 : List Int) (x9 : List Int) (x10 : List Int) (x11 : Int) : spec_LogsDots.L0 x0 x8 x9 x10 x11 = (if x11 ≤ (wrap64 (x0 - 2)) then (spec_LogsDots.L1 x0 x8 x9 x10 x11 1) else (some (x10, true))) :=
 Lim.step (f := fun k => spec_LogsDots.l0 (k + 1) x0 x8 x9 x10 x11) (spec_LogsDots.L0_lim x0 x8 x9 x10 x11) (fun _ => rfl) (by
  simp only [spec_LogsDots.l0]
  repeat' (first | (with_reducible first | exact Lim.const _ | exact spec_LogsDots.L1_lim _ _ _ _ _ _ | refine Lim.ite ?_ ?_ | refine Lim.bind ?_ (fun _ => ?_))))
theorem spec_LogsDots.L1_eq (x0 : Int) (x8 : List Int) (x9 : List Int) (x10 : List Int) (x11 : Int) (x12 : Int) : spec_LogsDots.L1 x0 x8 x9 x10 x11 x12 = (if x12 ≤ (wrap64 (x0 - 2)) then (if 0 ≤ x11 then (if x11 < (x8.length : Int) then (if 0 ≤ x12 then (if x12 < (x9.length : Int) then (if x0 = 0 then (none) else (if (Int.tmod (wrap64 ((rd x8 x11) + (rd x9 x12))) x0) = 1 then (if x10.length < 17592186044416 then (spec_LogsDots.L1 x0 x8 x9 (x10 ++ [wrap64 (x12 - 1)]) x11 (wrap64 (x12 + 1))) else (none)) else (spec_LogsDots.L1 x0 x8 x9 x10 x11 (wrap64 (x12 + 1))))) else (none)) else (none)) else (none)) else (none)) else (spec_LogsDots.L0 x0 x8 x9 x10 (wrap64 (x11 + 1)))) :=
 Lim.step (f := fun k => spec_LogsDots.l1 (k + 1) x0 x8 x9 x10 x11 x12) (spec_LogsDots.L1_lim x0 x8 x9 x10 x11 x12) (fun _ => rfl) (by
  simp only [spec_LogsDots.l1]
  repeat' (first | (with_reducible first | exact Lim.const _ | exact spec_LogsDots.L0_lim _ _ _ _ _ | exact spec_LogsDots.L1_lim _ _ _ _ _ _ | refine Lim.ite ?_ ?_ | refine Lim.bind ?_ (fun _ => ?_))))
theorem spec_LogsDots.F_eq (a0 : Int) (a1 : Int) (a2 : Int) : spec_LogsDots.F a0 a1 a2 = ((spec_doPrime.F a0).bind fun t359 => (if t359 = true then (if a0 < 5 then (spec_LogsDots.J0 a0 a1 a2 true) else ((spec_doRoot.F a0 a1).bind fun t360 => (if t360 = true then ((spec_doRoot.F a0 a2).bind fun t361 => (spec_LogsDots.J0 a0 a1 a2 (!t361))) else (spec_LogsDots.J0 a0 a1 a2 true)))) else (spec_LogsDots.J0 a0 a1 a2 true))) :=
 Lim.unique (spec_LogsDots.F_lim a0 a1 a2) (by
  unfold spec_LogsDots.f
  repeat' (first | (with_reducible first | exact Lim.const _ | exact spec_LogsDots.J0_lim _ _ _ _ | exact spec_doPrime.F_lim _ | exact spec_doRoot.F_lim _ _ | refine Lim.ite ?_ ?_ | refine Lim.bind ?_ (fun _ => ?_))))

end Go.Proofs.Ytadhfbchilaklaa.Fn
namespace Go.Proofs.Ytadhfbchilaklaa.Fn
open Go.RowKit Go.Proofs.YtadhfbchilaklaaW.PrintWords Go.Proofs.YtadhfbchilaklaaW.PrintLast Go.Proofs.YtadhfbchilaklaaW.PrintMore
attribute [local go_sem] max2_int min2_int max_two min_two max_three min_three max_four min_four   -- for this text's walks alone
set_option linter.unusedVariables false
set_option linter.unusedSimpArgs false

/-! ### spec_DrawLogsDots: function 54 -/
def spec_DrawLogsDots.f (l0 : List Int) : Option (Int × Int × Int) := (spec_l1Cur_pick.f l0 0 0 4).bind fun bt642 => (if bt642.1 = 0 then ((spec_l1Cur_among.f l0 bt642.2.1 bt642.2.2 (([2, 3, 4] : List Int))).bind fun bt648 => ((spec_l1Cur_among.f l0 bt648.2.1 bt648.2.2 (([2, 3] : List Int))).bind fun bt654 => (some (5, bt648.1, bt654.1)))) else (if bt642.1 = 1 then ((spec_l1Cur_among.f l0 bt642.2.1 bt642.2.2 (([3, 5] : List Int))).bind fun bt660 => ((spec_l1Cur_among.f l0 bt660.2.1 bt660.2.2 (([3, 5, 2] : List Int))).bind fun bt666 => (some (7, bt660.1, bt666.1)))) else (if bt642.1 = 2 then ((spec_l1Cur_among.f l0 bt642.2.1 bt642.2.2 (([2, 6, 7, 8] : List Int))).bind fun bt672 => ((spec_l1Cur_among.f l0 bt672.2.1 bt672.2.2 (([2, 6, 7, 8] : List Int))).bind fun bt678 => (some (11, bt672.1, bt678.1)))) else ((spec_DrawIsRoot.f l0).bind fun bt681 => (some (bt681.1, bt681.2, 2))))))
set_option maxHeartbeats 8000000 in
set_option maxRecDepth 100000 in
theorem spec_DrawLogsDots.calls (A0 : Option Addr) (c0 : Nat) (l0 : List Int) (r1 : Int) (r2 : Int) (r3 : Int) (w : World) (hr0 : Kd.C (Kd.int .u8) w A0 l0.length l0) (hc0 : l0.length ≤ c0) (h : spec_DrawLogsDots.f l0 = some (r1, r2, r3)) :
  Calls Try.prog 54 #[.slice A0 l0.length c0] w fun e w' => e = .returned (.tuple #[.int .i64 r1, .int .i64 r2, .int .i64 r3]) ∧ Below w.heap.size w w' := by
 have hu83 := Try.underlying83
 have HR0 := Aside0.mk hr0
 have HC0 := Aside0.mk hc0
 clear hr0 hc0
 have HB := Aside0.mk (Below.refl w.heap.size w)
 have H := h
 unfold spec_DrawLogsDots.f at H
 clear h
 replace H := Option.bind_eq_some_iff.mp H
 obtain ⟨⟨t642, t643, t644⟩, A20, H⟩ := H
 replace H : (if t642 = 0 then ((spec_l1Cur_among.f l0 t643 t644 (([2, 3, 4] : List Int))).bind fun bt648 => ((spec_l1Cur_among.f l0 bt648.2.1 bt648.2.2 (([2, 3] : List Int))).bind fun bt654 => (some (5, bt648.1, bt654.1)))) else (if t642 = 1 then ((spec_l1Cur_among.f l0 t643 t644 (([3, 5] : List Int))).bind fun bt660 => ((spec_l1Cur_among.f l0 bt660.2.1 bt660.2.2 (([3, 5, 2] : List Int))).bind fun bt666 => (some (7, bt660.1, bt666.1)))) else (if t642 = 2 then ((spec_l1Cur_among.f l0 t643 t644 (([2, 6, 7, 8] : List Int))).bind fun bt672 => ((spec_l1Cur_among.f l0 bt672.2.1 bt672.2.2 (([2, 6, 7, 8] : List Int))).bind fun bt678 => (some (11, bt672.1, bt678.1)))) else ((spec_DrawIsRoot.f l0).bind fun bt681 => (some (bt681.1, bt681.2, 2)))))) = some (r1, r2, r3) := H
 have A2 := Aside0.mk A20
 clear A20
 by_cases c3 : t642 = 0
 ·rw [if_pos c3] at H
  have c3b0 : (t642 == 0) = true := beq_iff_eq.mpr c3
  have c3b1 : (t642 != 0) = false := bne_eq_false_iff_eq.mpr c3
  clear c3
  obtain ⟨y645, hy645⟩ : ∃ y_ : List Int, y_ = (([2, 3, 4] : List Int)) := ⟨_, rfl⟩
  replace H : ((spec_l1Cur_among.f l0 t643 t644 y645).bind fun bt648 => ((spec_l1Cur_among.f l0 bt648.2.1 bt648.2.2 (([2, 3] : List Int))).bind fun bt654 => (some (5, bt648.1, bt654.1)))) = some (r1, r2, r3) := by first | (rw [hy645]; with_reducible exact H) | (have H2_ := (Option.bind_some _ _).symm.trans H; rw [hy645]; with_reducible exact H2_) | (have H2_ := (Option.bind_some _ _).symm.trans H; with_reducible exact H2_) | with_reducible exact H | (rw [hy645]; exact H) | exact H
  have Ny645 := Aside0.mk hy645
  clear hy645
  replace H := Option.bind_eq_some_iff.mp H
  obtain ⟨⟨t648, t649, t650⟩, A40, H⟩ := H
  replace H : ((spec_l1Cur_among.f l0 t649 t650 (([2, 3] : List Int))).bind fun bt654 => (some (5, t648, bt654.1))) = some (r1, r2, r3) := H
  have A4 := Aside0.mk A40
  clear A40
  obtain ⟨y651, hy651⟩ : ∃ y_ : List Int, y_ = (([2, 3] : List Int)) := ⟨_, rfl⟩
  replace H : ((spec_l1Cur_among.f l0 t649 t650 y651).bind fun bt654 => (some (5, t648, bt654.1))) = some (r1, r2, r3) := by first | (rw [hy651]; with_reducible exact H) | (have H2_ := (Option.bind_some _ _).symm.trans H; rw [hy651]; with_reducible exact H2_) | (have H2_ := (Option.bind_some _ _).symm.trans H; with_reducible exact H2_) | with_reducible exact H | (rw [hy651]; exact H) | exact H
  have Ny651 := Aside0.mk hy651
  clear hy651
  replace H := Option.bind_eq_some_iff.mp H
  obtain ⟨⟨t654, t655, t656⟩, A50, H⟩ := H
  replace H : (some (5, t648, t654)) = some (r1, r2, r3) := H
  have A5 := Aside0.mk A50
  clear A50
  simp only [Option.some.injEq, Prod.mk.injEq] at H
  obtain ⟨rfl, rfl, rfl⟩ := H
  go_enter Try.func54, Try.ntmps54
  go_wp2_with (first | ((with_reducible refine gate_dst (N := 10) rfl ?_); refine box_event ?hg (N := 10) ?hd (cs := #[.slice A0 l0.length c0, .int .i64 0, .int .u64 0]) (t := 83) ?hr ?_; (case hd => rfl); (case hg => rfl); (case hr => first | (go_simp; done) | (go_simp; rfl)); intro gb641 hg w6 hbox hb; have HI641 := Aside0.mk ((⟨_, _, hbox, (by rw [hg]; exact (szB HB) : w.heap.size ≤ gb641), HR0.out⟩ : IsS83 w w6 gb641 l0 0 0)); replace HB := upB HB hb; clear hb hbox hg) | ((with_reducible refine gate_callee (f := 177) rfl ?_); refine goesA (some 12) Try.func177 #[.pointer (some ⟨gb641, 0, none⟩), .int .i64 4] ?_; (with_reducible refine (spec_l1Cur_pick.calls gb641 l0 0 0 4 t642 t643 t644 w _ ?side1 ?side2 A2.out).mono ?_); (case side1 => exact IsS83.at HI641); (case side2 => exact atB HB); rintro e w7 ⟨rfl, hi, hb, hk⟩; refine ⟨_, rfl, ?_⟩; replace HB := Aside0.mk (hb); replace HI641 := Aside0.mk (hi); (try clear hb); (try clear hb2); (try clear hk); (try clear hi)) | ((with_reducible refine gate_dst (N := 16) rfl ?_); refine Kd.R_lit (Kd.int .i64) _ 3 ?hg (N := 16) ?hd (xs := ([2, 3, 4] : List Int)) (inner := [.int .i64 2, .int .i64 3, .int .i64 4]) (ok := fun _ => True) (okp := fun _ => True) ?hr ?hp (fun _ hk => hk) trivial (Below.refl _ _) (Nat.le_refl _) (by simp) ?_; (case hd => rfl); (case hg => rfl); (case hr => first | (go_simp; done) | (go_simp; rfl)); (case hp => exact repsI _); intro v646 w8 ho9 hb hg_ hnew_; clear hg_ hnew_; (first | rw [← Ny645.out] at ho9 | (simp only [Int.reduceToNat] at ho9; rw [← Ny645.out] at ho9)); have HO647 := lowR ho9 HB; replace HI641 := IsS83.up HI641 hb; replace HB := upB HB hb; clear hb ho9; obtain ⟨Ao10, co10, eo10⟩ := Kd.R_slice HO647.out; subst eo10) | ((with_reducible refine gate_callee (f := 178) rfl ?_); refine goesA (some 17) Try.func178 #[.pointer (some ⟨gb641, 0, none⟩), .slice Ao10 y645.length co10] ?_; (with_reducible refine (spec_l1Cur_among.calls gb641 l0 t643 t644 _ _ y645 t648 t649 t650 w _ ?side1 ?side2 ?side3 ?side4 ?side5 A4.out).mono ?_); (case side1 => exact IsS83.at HI641); (case side2 => exact atB HB); (case side3 => exact atRC HO647); (case side4 => exact (Kd.R_reads' HO647.out).2.1); (case side5 => exact far_slice (IsS83.own_ne HI641.out HO647.out (by decide))); rintro e w11 ⟨rfl, hi, hb, hk⟩; refine ⟨_, rfl, ?_⟩; replace HO647 := IsS83.keepR HI641 HO647 hk; replace HB := Aside0.mk (hb); replace HI641 := Aside0.mk (hi); (try clear hb); (try clear hb2); (try clear hk); (try clear hi)) | ((with_reducible refine gate_dst (N := 19) rfl ?_); refine Kd.R_lit (Kd.int .i64) _ 3 ?hg (N := 19) ?hd (xs := ([2, 3] : List Int)) (inner := [.int .i64 2, .int .i64 3]) (ok := fun _ => True) (okp := fun _ => True) ?hr ?hp (fun _ hk => hk) trivial (Below.refl _ _) (Nat.le_refl _) (by simp) ?_; (case hd => rfl); (case hg => rfl); (case hr => first | (go_simp; done) | (go_simp; rfl)); (case hp => exact repsI _); intro v652 w12 ho13 hb hg_ hnew_; clear hg_ hnew_; (first | rw [← Ny651.out] at ho13 | (simp only [Int.reduceToNat] at ho13; rw [← Ny651.out] at ho13)); have HO653 := Aside0.mk (Kd.R_lower (Kd.R_new' ho13 (ltR HO647)) (szB HB)); replace HO647 := eldRR HO647 ho13 hb; replace HI641 := IsS83.up HI641 hb; replace HB := upB HB hb; clear hb ho13; obtain ⟨Ao14, co14, eo14⟩ := Kd.R_slice HO653.out; subst eo14) | ((with_reducible refine gate_callee (f := 178) rfl ?_); refine goesA (some 20) Try.func178 #[.pointer (some ⟨gb641, 0, none⟩), .slice Ao14 y651.length co14] ?_; (with_reducible refine (spec_l1Cur_among.calls gb641 l0 t649 t650 _ _ y651 t654 t655 t656 w _ ?side1 ?side2 ?side3 ?side4 ?side5 A5.out).mono ?_); (case side1 => exact IsS83.at HI641); (case side2 => exact atB HB); (case side3 => exact atRC HO653); (case side4 => exact (Kd.R_reads' HO653.out).2.1); (case side5 => exact far_slice (IsS83.own_ne HI641.out HO653.out (by decide))); rintro e w15 ⟨rfl, hi, hb, hk⟩; refine ⟨_, rfl, ?_⟩; replace HO647 := IsS83.keepR HI641 HO647 hk; replace HO653 := IsS83.keepR HI641 HO653 hk; replace HB := Aside0.mk (hb); replace HI641 := Aside0.mk (hi); (try clear hb); (try clear hb2); (try clear hk); (try clear hi)))
  go_ret3
  exact ⟨eqr, atB HB⟩
 ·rw [if_neg c3] at H
  have c3b0 : (t642 == 0) = false := beq_eq_false_iff_ne.mpr c3
  have c3b1 : (t642 != 0) = true := bne_iff_ne.mpr c3
  by_cases c16 : t642 = 1
  ·rw [if_pos c16] at H
   have c16b0 : (t642 == 1) = true := beq_iff_eq.mpr c16
   have c16b1 : (t642 != 1) = false := bne_eq_false_iff_eq.mpr c16
   clear c16
   obtain ⟨y657, hy657⟩ : ∃ y_ : List Int, y_ = (([3, 5] : List Int)) := ⟨_, rfl⟩
   replace H : ((spec_l1Cur_among.f l0 t643 t644 y657).bind fun bt660 => ((spec_l1Cur_among.f l0 bt660.2.1 bt660.2.2 (([3, 5, 2] : List Int))).bind fun bt666 => (some (7, bt660.1, bt666.1)))) = some (r1, r2, r3) := by first | (rw [hy657]; with_reducible exact H) | (have H2_ := (Option.bind_some _ _).symm.trans H; rw [hy657]; with_reducible exact H2_) | (have H2_ := (Option.bind_some _ _).symm.trans H; with_reducible exact H2_) | with_reducible exact H | (rw [hy657]; exact H) | exact H
   have Ny657 := Aside0.mk hy657
   clear hy657
   replace H := Option.bind_eq_some_iff.mp H
   obtain ⟨⟨t660, t661, t662⟩, A170, H⟩ := H
   replace H : ((spec_l1Cur_among.f l0 t661 t662 (([3, 5, 2] : List Int))).bind fun bt666 => (some (7, t660, bt666.1))) = some (r1, r2, r3) := H
   have A17 := Aside0.mk A170
   clear A170
   obtain ⟨y663, hy663⟩ : ∃ y_ : List Int, y_ = (([3, 5, 2] : List Int)) := ⟨_, rfl⟩
   replace H : ((spec_l1Cur_among.f l0 t661 t662 y663).bind fun bt666 => (some (7, t660, bt666.1))) = some (r1, r2, r3) := by first | (rw [hy663]; with_reducible exact H) | (have H2_ := (Option.bind_some _ _).symm.trans H; rw [hy663]; with_reducible exact H2_) | (have H2_ := (Option.bind_some _ _).symm.trans H; with_reducible exact H2_) | with_reducible exact H | (rw [hy663]; exact H) | exact H
   have Ny663 := Aside0.mk hy663
   clear hy663
   replace H := Option.bind_eq_some_iff.mp H
   obtain ⟨⟨t666, t667, t668⟩, A180, H⟩ := H
   replace H : (some (7, t660, t666)) = some (r1, r2, r3) := H
   have A18 := Aside0.mk A180
   clear A180
   simp only [Option.some.injEq, Prod.mk.injEq] at H
   obtain ⟨rfl, rfl, rfl⟩ := H
   go_enter Try.func54, Try.ntmps54
   go_wp2_with (first | ((with_reducible refine gate_dst (N := 10) rfl ?_); refine box_event ?hg (N := 10) ?hd (cs := #[.slice A0 l0.length c0, .int .i64 0, .int .u64 0]) (t := 83) ?hr ?_; (case hd => rfl); (case hg => rfl); (case hr => first | (go_simp; done) | (go_simp; rfl)); intro gb641 hg w19 hbox hb; have HI641 := Aside0.mk ((⟨_, _, hbox, (by rw [hg]; exact (szB HB) : w.heap.size ≤ gb641), HR0.out⟩ : IsS83 w w19 gb641 l0 0 0)); replace HB := upB HB hb; clear hb hbox hg) | ((with_reducible refine gate_callee (f := 177) rfl ?_); refine goesA (some 12) Try.func177 #[.pointer (some ⟨gb641, 0, none⟩), .int .i64 4] ?_; (with_reducible refine (spec_l1Cur_pick.calls gb641 l0 0 0 4 t642 t643 t644 w _ ?side1 ?side2 A2.out).mono ?_); (case side1 => exact IsS83.at HI641); (case side2 => exact atB HB); rintro e w20 ⟨rfl, hi, hb, hk⟩; refine ⟨_, rfl, ?_⟩; replace HB := Aside0.mk (hb); replace HI641 := Aside0.mk (hi); (try clear hb); (try clear hb2); (try clear hk); (try clear hi)) | ((with_reducible refine gate_dst (N := 24) rfl ?_); refine Kd.R_lit (Kd.int .i64) _ 3 ?hg (N := 24) ?hd (xs := ([3, 5] : List Int)) (inner := [.int .i64 3, .int .i64 5]) (ok := fun _ => True) (okp := fun _ => True) ?hr ?hp (fun _ hk => hk) trivial (Below.refl _ _) (Nat.le_refl _) (by simp) ?_; (case hd => rfl); (case hg => rfl); (case hr => first | (go_simp; done) | (go_simp; rfl)); (case hp => exact repsI _); intro v658 w21 ho22 hb hg_ hnew_; clear hg_ hnew_; (first | rw [← Ny657.out] at ho22 | (simp only [Int.reduceToNat] at ho22; rw [← Ny657.out] at ho22)); have HO659 := lowR ho22 HB; replace HI641 := IsS83.up HI641 hb; replace HB := upB HB hb; clear hb ho22; obtain ⟨Ao23, co23, eo23⟩ := Kd.R_slice HO659.out; subst eo23) | ((with_reducible refine gate_callee (f := 178) rfl ?_); refine goesA (some 25) Try.func178 #[.pointer (some ⟨gb641, 0, none⟩), .slice Ao23 y657.length co23] ?_; (with_reducible refine (spec_l1Cur_among.calls gb641 l0 t643 t644 _ _ y657 t660 t661 t662 w _ ?side1 ?side2 ?side3 ?side4 ?side5 A17.out).mono ?_); (case side1 => exact IsS83.at HI641); (case side2 => exact atB HB); (case side3 => exact atRC HO659); (case side4 => exact (Kd.R_reads' HO659.out).2.1); (case side5 => exact far_slice (IsS83.own_ne HI641.out HO659.out (by decide))); rintro e w24 ⟨rfl, hi, hb, hk⟩; refine ⟨_, rfl, ?_⟩; replace HO659 := IsS83.keepR HI641 HO659 hk; replace HB := Aside0.mk (hb); replace HI641 := Aside0.mk (hi); (try clear hb); (try clear hb2); (try clear hk); (try clear hi)) | ((with_reducible refine gate_dst (N := 27) rfl ?_); refine Kd.R_lit (Kd.int .i64) _ 3 ?hg (N := 27) ?hd (xs := ([3, 5, 2] : List Int)) (inner := [.int .i64 3, .int .i64 5, .int .i64 2]) (ok := fun _ => True) (okp := fun _ => True) ?hr ?hp (fun _ hk => hk) trivial (Below.refl _ _) (Nat.le_refl _) (by simp) ?_; (case hd => rfl); (case hg => rfl); (case hr => first | (go_simp; done) | (go_simp; rfl)); (case hp => exact repsI _); intro v664 w25 ho26 hb hg_ hnew_; clear hg_ hnew_; (first | rw [← Ny663.out] at ho26 | (simp only [Int.reduceToNat] at ho26; rw [← Ny663.out] at ho26)); have HO665 := Aside0.mk (Kd.R_lower (Kd.R_new' ho26 (ltR HO659)) (szB HB)); replace HO659 := eldRR HO659 ho26 hb; replace HI641 := IsS83.up HI641 hb; replace HB := upB HB hb; clear hb ho26; obtain ⟨Ao27, co27, eo27⟩ := Kd.R_slice HO665.out; subst eo27) | ((with_reducible refine gate_callee (f := 178) rfl ?_); refine goesA (some 28) Try.func178 #[.pointer (some ⟨gb641, 0, none⟩), .slice Ao27 y663.length co27] ?_; (with_reducible refine (spec_l1Cur_among.calls gb641 l0 t661 t662 _ _ y663 t666 t667 t668 w _ ?side1 ?side2 ?side3 ?side4 ?side5 A18.out).mono ?_); (case side1 => exact IsS83.at HI641); (case side2 => exact atB HB); (case side3 => exact atRC HO665); (case side4 => exact (Kd.R_reads' HO665.out).2.1); (case side5 => exact far_slice (IsS83.own_ne HI641.out HO665.out (by decide))); rintro e w28 ⟨rfl, hi, hb, hk⟩; refine ⟨_, rfl, ?_⟩; replace HO659 := IsS83.keepR HI641 HO659 hk; replace HO665 := IsS83.keepR HI641 HO665 hk; replace HB := Aside0.mk (hb); replace HI641 := Aside0.mk (hi); (try clear hb); (try clear hb2); (try clear hk); (try clear hi)))
   go_ret3
   exact ⟨eqr, atB HB⟩
  ·rw [if_neg c16] at H
   have c16b0 : (t642 == 1) = false := beq_eq_false_iff_ne.mpr c16
   have c16b1 : (t642 != 1) = true := bne_iff_ne.mpr c16
   by_cases c29 : t642 = 2
   ·rw [if_pos c29] at H
    have c29b0 : (t642 == 2) = true := beq_iff_eq.mpr c29
    have c29b1 : (t642 != 2) = false := bne_eq_false_iff_eq.mpr c29
    clear c29
    obtain ⟨y669, hy669⟩ : ∃ y_ : List Int, y_ = (([2, 6, 7, 8] : List Int)) := ⟨_, rfl⟩
    replace H : ((spec_l1Cur_among.f l0 t643 t644 y669).bind fun bt672 => ((spec_l1Cur_among.f l0 bt672.2.1 bt672.2.2 (([2, 6, 7, 8] : List Int))).bind fun bt678 => (some (11, bt672.1, bt678.1)))) = some (r1, r2, r3) := by first | (rw [hy669]; with_reducible exact H) | (have H2_ := (Option.bind_some _ _).symm.trans H; rw [hy669]; with_reducible exact H2_) | (have H2_ := (Option.bind_some _ _).symm.trans H; with_reducible exact H2_) | with_reducible exact H | (rw [hy669]; exact H) | exact H
    have Ny669 := Aside0.mk hy669
    clear hy669
    replace H := Option.bind_eq_some_iff.mp H
    obtain ⟨⟨t672, t673, t674⟩, A300, H⟩ := H
    replace H : ((spec_l1Cur_among.f l0 t673 t674 (([2, 6, 7, 8] : List Int))).bind fun bt678 => (some (11, t672, bt678.1))) = some (r1, r2, r3) := H
    have A30 := Aside0.mk A300
    clear A300
    obtain ⟨y675, hy675⟩ : ∃ y_ : List Int, y_ = (([2, 6, 7, 8] : List Int)) := ⟨_, rfl⟩
    replace H : ((spec_l1Cur_among.f l0 t673 t674 y675).bind fun bt678 => (some (11, t672, bt678.1))) = some (r1, r2, r3) := by first | (rw [hy675]; with_reducible exact H) | (have H2_ := (Option.bind_some _ _).symm.trans H; rw [hy675]; with_reducible exact H2_) | (have H2_ := (Option.bind_some _ _).symm.trans H; with_reducible exact H2_) | with_reducible exact H | (rw [hy675]; exact H) | exact H
    have Ny675 := Aside0.mk hy675
    clear hy675
    replace H := Option.bind_eq_some_iff.mp H
    obtain ⟨⟨t678, t679, t680⟩, A310, H⟩ := H
    replace H : (some (11, t672, t678)) = some (r1, r2, r3) := H
    have A31 := Aside0.mk A310
    clear A310
    simp only [Option.some.injEq, Prod.mk.injEq] at H
    obtain ⟨rfl, rfl, rfl⟩ := H
    go_enter Try.func54, Try.ntmps54
    go_wp2_with (first | ((with_reducible refine gate_dst (N := 10) rfl ?_); refine box_event ?hg (N := 10) ?hd (cs := #[.slice A0 l0.length c0, .int .i64 0, .int .u64 0]) (t := 83) ?hr ?_; (case hd => rfl); (case hg => rfl); (case hr => first | (go_simp; done) | (go_simp; rfl)); intro gb641 hg w32 hbox hb; have HI641 := Aside0.mk ((⟨_, _, hbox, (by rw [hg]; exact (szB HB) : w.heap.size ≤ gb641), HR0.out⟩ : IsS83 w w32 gb641 l0 0 0)); replace HB := upB HB hb; clear hb hbox hg) | ((with_reducible refine gate_callee (f := 177) rfl ?_); refine goesA (some 12) Try.func177 #[.pointer (some ⟨gb641, 0, none⟩), .int .i64 4] ?_; (with_reducible refine (spec_l1Cur_pick.calls gb641 l0 0 0 4 t642 t643 t644 w _ ?side1 ?side2 A2.out).mono ?_); (case side1 => exact IsS83.at HI641); (case side2 => exact atB HB); rintro e w33 ⟨rfl, hi, hb, hk⟩; refine ⟨_, rfl, ?_⟩; replace HB := Aside0.mk (hb); replace HI641 := Aside0.mk (hi); (try clear hb); (try clear hb2); (try clear hk); (try clear hi)) | ((with_reducible refine gate_dst (N := 32) rfl ?_); refine Kd.R_lit (Kd.int .i64) _ 3 ?hg (N := 32) ?hd (xs := ([2, 6, 7, 8] : List Int)) (inner := [.int .i64 2, .int .i64 6, .int .i64 7, .int .i64 8]) (ok := fun _ => True) (okp := fun _ => True) ?hr ?hp (fun _ hk => hk) trivial (Below.refl _ _) (Nat.le_refl _) (by simp) ?_; (case hd => rfl); (case hg => rfl); (case hr => first | (go_simp; done) | (go_simp; rfl)); (case hp => exact repsI _); intro v670 w34 ho35 hb hg_ hnew_; clear hg_ hnew_; (first | rw [← Ny669.out] at ho35 | (simp only [Int.reduceToNat] at ho35; rw [← Ny669.out] at ho35)); have HO671 := lowR ho35 HB; replace HI641 := IsS83.up HI641 hb; replace HB := upB HB hb; clear hb ho35; obtain ⟨Ao36, co36, eo36⟩ := Kd.R_slice HO671.out; subst eo36) | ((with_reducible refine gate_callee (f := 178) rfl ?_); refine goesA (some 33) Try.func178 #[.pointer (some ⟨gb641, 0, none⟩), .slice Ao36 y669.length co36] ?_; (with_reducible refine (spec_l1Cur_among.calls gb641 l0 t643 t644 _ _ y669 t672 t673 t674 w _ ?side1 ?side2 ?side3 ?side4 ?side5 A30.out).mono ?_); (case side1 => exact IsS83.at HI641); (case side2 => exact atB HB); (case side3 => exact atRC HO671); (case side4 => exact (Kd.R_reads' HO671.out).2.1); (case side5 => exact far_slice (IsS83.own_ne HI641.out HO671.out (by decide))); rintro e w37 ⟨rfl, hi, hb, hk⟩; refine ⟨_, rfl, ?_⟩; replace HO671 := IsS83.keepR HI641 HO671 hk; replace HB := Aside0.mk (hb); replace HI641 := Aside0.mk (hi); (try clear hb); (try clear hb2); (try clear hk); (try clear hi)) | ((with_reducible refine gate_dst (N := 35) rfl ?_); refine Kd.R_lit (Kd.int .i64) _ 3 ?hg (N := 35) ?hd (xs := ([2, 6, 7, 8] : List Int)) (inner := [.int .i64 2, .int .i64 6, .int .i64 7, .int .i64 8]) (ok := fun _ => True) (okp := fun _ => True) ?hr ?hp (fun _ hk => hk) trivial (Below.refl _ _) (Nat.le_refl _) (by simp) ?_; (case hd => rfl); (case hg => rfl); (case hr => first | (go_simp; done) | (go_simp; rfl)); (case hp => exact repsI _); intro v676 w38 ho39 hb hg_ hnew_; clear hg_ hnew_; (first | rw [← Ny675.out] at ho39 | (simp only [Int.reduceToNat] at ho39; rw [← Ny675.out] at ho39)); have HO677 := Aside0.mk (Kd.R_lower (Kd.R_new' ho39 (ltR HO671)) (szB HB)); replace HO671 := eldRR HO671 ho39 hb; replace HI641 := IsS83.up HI641 hb; replace HB := upB HB hb; clear hb ho39; obtain ⟨Ao40, co40, eo40⟩ := Kd.R_slice HO677.out; subst eo40) | ((with_reducible refine gate_callee (f := 178) rfl ?_); refine goesA (some 36) Try.func178 #[.pointer (some ⟨gb641, 0, none⟩), .slice Ao40 y675.length co40] ?_; (with_reducible refine (spec_l1Cur_among.calls gb641 l0 t673 t674 _ _ y675 t678 t679 t680 w _ ?side1 ?side2 ?side3 ?side4 ?side5 A31.out).mono ?_); (case side1 => exact IsS83.at HI641); (case side2 => exact atB HB); (case side3 => exact atRC HO677); (case side4 => exact (Kd.R_reads' HO677.out).2.1); (case side5 => exact far_slice (IsS83.own_ne HI641.out HO677.out (by decide))); rintro e w41 ⟨rfl, hi, hb, hk⟩; refine ⟨_, rfl, ?_⟩; replace HO671 := IsS83.keepR HI641 HO671 hk; replace HO677 := IsS83.keepR HI641 HO677 hk; replace HB := Aside0.mk (hb); replace HI641 := Aside0.mk (hi); (try clear hb); (try clear hb2); (try clear hk); (try clear hi)))
    go_ret3
    exact ⟨eqr, atB HB⟩
   ·rw [if_neg c29] at H
    have c29b0 : (t642 == 2) = false := beq_eq_false_iff_ne.mpr c29
    have c29b1 : (t642 != 2) = true := bne_iff_ne.mpr c29
    replace H := Option.bind_eq_some_iff.mp H
    obtain ⟨⟨t681, t682⟩, A420, H⟩ := H
    replace H : (some (t681, t682, 2)) = some (r1, r2, r3) := H
    have A42 := Aside0.mk A420
    clear A420
    simp only [Option.some.injEq, Prod.mk.injEq] at H
    obtain ⟨rfl, rfl, rfl⟩ := H
    go_enter Try.func54, Try.ntmps54
    go_wp2_with (first | ((with_reducible refine gate_dst (N := 10) rfl ?_); refine box_event ?hg (N := 10) ?hd (cs := #[.slice A0 l0.length c0, .int .i64 0, .int .u64 0]) (t := 83) ?hr ?_; (case hd => rfl); (case hg => rfl); (case hr => first | (go_simp; done) | (go_simp; rfl)); intro gb641 hg w43 hbox hb; have HI641 := Aside0.mk ((⟨_, _, hbox, (by rw [hg]; exact (szB HB) : w.heap.size ≤ gb641), HR0.out⟩ : IsS83 w w43 gb641 l0 0 0)); replace HB := upB HB hb; clear hb hbox hg) | ((with_reducible refine gate_callee (f := 177) rfl ?_); refine goesA (some 12) Try.func177 #[.pointer (some ⟨gb641, 0, none⟩), .int .i64 4] ?_; (with_reducible refine (spec_l1Cur_pick.calls gb641 l0 0 0 4 t642 t643 t644 w _ ?side1 ?side2 A2.out).mono ?_); (case side1 => exact IsS83.at HI641); (case side2 => exact atB HB); rintro e w44 ⟨rfl, hi, hb, hk⟩; refine ⟨_, rfl, ?_⟩; replace HB := Aside0.mk (hb); replace HI641 := Aside0.mk (hi); (try clear hb); (try clear hb2); (try clear hk); (try clear hi)) | ((with_reducible refine gate_callee (f := 170) rfl ?_); refine goesA (some 39) Try.func170 #[.slice A0 l0.length c0] ?_; (with_reducible refine (spec_DrawIsRoot.calls _ _ l0 t681 t682 _ ?side1 ?side2 A42.out).mono ?_); (case side1 => repeat (first | exact (Kd.C_below HR0.out HB.out) | (with_reducible refine Kd.C_alloc ?_ _) | (with_reducible refine Kd.C_drewN ?_ _) | (with_reducible refine Kd.C_drew ?_))); (case side2 => exact HC0.out); rintro e w45 ⟨rfl, hb⟩; refine ⟨_, rfl, ?_⟩; replace HI641 := IsS83.up HI641 hb; replace HB := upB HB hb; (try clear hb); (try clear hb2); (try clear hk); (try clear hi)))
    go_ret3
    exact ⟨eqr, atB HB⟩


end Go.Proofs.Ytadhfbchilaklaa.Fn
namespace Go.Proofs.Ytadhfbchilaklaa.Fn
open Go.RowKit Go.Proofs.YtadhfbchilaklaaW.PrintWords Go.Proofs.YtadhfbchilaklaaW.PrintLast Go.Proofs.YtadhfbchilaklaaW.PrintMore
attribute [local go_sem] max2_int min2_int max_two min_two max_three min_three max_four min_four   -- for this text's walks alone
set_option linter.unusedVariables false
set_option linter.unusedSimpArgs false

/-! ### slices_Index_int_int: function 249 -/
def slices_Index_int_int.l0 : Nat → List Int → Int → Int → Int → Option (Int)
 | 0, _, _, _, _ => none
 | k + 1, x0, x1, x7, x8 => if x8 < x7 then (if 0 ≤ x8 then (if x8 < (x0.length : Int) then (if x1 = (rd x0 x8) then (some x8) else (slices_Index_int_int.l0 k x0 x1 x7 (wrap64 (x8 + 1)))) else (none)) else (none)) else (some (-1))
def slices_Index_int_int.f (k : Nat) (l0 : List Int) (a1 : Int) : Option (Int) := slices_Index_int_int.l0 k l0 a1 (l0.length : Int) 0
theorem slices_Index_int_int.mono_l : ∀ k, (∀ y0 y1 y2 y3, LeO (slices_Index_int_int.l0 k y0 y1 y2 y3) (slices_Index_int_int.l0 (k + 1) y0 y1 y2 y3))
 | 0 => fun _ _ _ _ r h => by simp [slices_Index_int_int.l0] at h
 | k + 1 => by
  have ih0 := slices_Index_int_int.mono_l k
  ·intro y0 y1 y2 y3
   unfold slices_Index_int_int.l0
   repeat' (first | (with_reducible first | exact ih0 _ _ _ _ | exact LeO.refl _ | exact LeO.none _ | refine LeO.ite ?_ ?_ | refine LeO.bind ?_ (fun _ => ?_)) | exact ih0 _ _ _ _ | exact LeO.none _ | refine LeO.ite ?_ ?_ | refine LeO.bind ?_ (fun _ => ?_))
theorem slices_Index_int_int.mono : ∀ a0 a1 k, LeO (slices_Index_int_int.f k a0 a1) (slices_Index_int_int.f (k + 1) a0 a1) := by
 intro a0 a1 k
 have ih0 := slices_Index_int_int.mono_l k
 unfold slices_Index_int_int.f
 repeat' (first | (with_reducible first | exact ih0 _ _ _ _ | exact LeO.refl _ | exact LeO.none _ | refine LeO.ite ?_ ?_ | refine LeO.bind ?_ (fun _ => ?_)) | exact ih0 _ _ _ _ | exact LeO.none _ | refine LeO.ite ?_ ?_ | refine LeO.bind ?_ (fun _ => ?_))
set_option maxHeartbeats 8000000 in
set_option maxRecDepth 100000 in
theorem slices_Index_int_int.calls (k : Nat) (A0 : Option Addr) (c0 : Nat) (l0 : List Int) (a1 : Int) (r : Int) (w : World) (hr0 : Kd.C (Kd.int .i64) w A0 l0.length l0) (hc0 : l0.length ≤ c0) (h : slices_Index_int_int.f k l0 a1 = some r) :
  Calls Try.prog 249 #[.slice A0 l0.length c0, .int .i64 a1] w fun e w' => e = .returned (.int .i64 r) ∧ Drawn0 w w' := by
 have HR0 := Aside0.mk hr0
 have HC0 := Aside0.mk hc0
 clear hr0 hc0
 have H := h
 unfold slices_Index_int_int.f at H
 clear h
 have H' := Aside0.mk H
 clear H
 go_enter Try.func249, Try.ntmps249
 go_wp2
 go_loopg [8] k (fun kq v8 w' => ∃ (x8_1 : Int), v8 = .int .i64 x8_1 ∧ Aside0 (slices_Index_int_int.l0 kq l0 a1 (l0.length : Int) x8_1 = some r) ∧ Aside0 (kq ≤ k) ∧ Drawn0 w w')
 case atStart => exact ⟨(0), eqd, H', ⟨Nat.le_refl _⟩, by repeat (first | exact Drawn0.refl _ | apply Drawn0.step)⟩
 case round =>
  clear H'
  try clear c2
  try clear p2
  obtain ⟨x8_1, rfl, HA, HK1, ⟨m1, rfl⟩⟩ := hrel
  cases gk with
  | zero => exact absurd HA.out (by simp [slices_Index_int_int.l0])
  | succ k1 =>
   have H := HA.out
   clear HA
   simp only [slices_Index_int_int.l0] at H
   by_cases c3 : x8_1 < (l0.length : Int)
   ·rw [if_pos c3] at H
    have c3b0 : decide (x8_1 < (l0.length : Int)) = true := decide_eq_true c3
    clear c3
    by_cases c4 : 0 ≤ x8_1
    ·rw [if_pos c4] at H
     have c4b0 : decide (0 ≤ x8_1) = true := decide_eq_true c4
     clear c4
     by_cases c5 : x8_1 < (l0.length : Int)
     ·rw [if_pos c5] at H
      have c5b0 : decide (x8_1 < (l0.length : Int)) = true := decide_eq_true c5
      clear c5
      by_cases c6 : a1 = (rd l0 x8_1)
      ·rw [if_pos c6] at H
       have c6b0 : (a1 == (rd l0 x8_1)) = true := beq_iff_eq.mpr c6
       have c6b1 : (a1 != (rd l0 x8_1)) = false := bne_eq_false_iff_eq.mpr c6
       clear c6
       obtain rfl := Option.some.inj H
       have p209 : 0 ≤ (x8_1 : Int) := ofd
       have q209 : x8_1 < (l0.length : Int) := ofd
       obtain ⟨ad209, e209, hx209_0⟩ := Kd.at_int HR0.out x8_1 p209 q209
       cases e209
       replace p209 := eq_true p209
       replace q209 := eq_true q209
       go_wp2
       go_ret
       exact ⟨by first | rfl | (simp; done) | (simp [*]; done), by repeat (first | exact Drawn0.refl _ | apply Drawn0.step)⟩
      ·rw [if_neg c6] at H
       have c6b0 : (a1 == (rd l0 x8_1)) = false := beq_eq_false_iff_ne.mpr c6
       have c6b1 : (a1 != (rd l0 x8_1)) = true := bne_iff_ne.mpr c6
       have H' := Aside0.mk H
       clear H
       have p209 : 0 ≤ (x8_1 : Int) := ofd
       have q209 : x8_1 < (l0.length : Int) := ofd
       obtain ⟨ad209, e209, hx209_0⟩ := Kd.at_int HR0.out x8_1 p209 q209
       cases e209
       replace p209 := eq_true p209
       replace q209 := eq_true q209
       go_wp2
       go_roundg k1
       case measure => have := HK1.out; omega
       case rel => exact ⟨(wrap64 (x8_1 + 1)), eqd, H', ⟨by have := HK1.out; omega⟩, by repeat (first | exact Drawn0.refl _ | apply Drawn0.step)⟩
     ·rw [if_neg c5] at H
      exact absurd H (by simp)
    ·rw [if_neg c4] at H
     exact absurd H (by simp)
   ·rw [if_neg c3] at H
    have c3b0 : decide (x8_1 < (l0.length : Int)) = false := decide_eq_false c3
    clear c3
    obtain rfl := Option.some.inj H
    go_wp2
    go_ret
    exact ⟨by first | rfl | (simp; done) | (simp [*]; done), by repeat (first | exact Drawn0.refl _ | apply Drawn0.step)⟩

noncomputable def slices_Index_int_int.L0 (x0 : List Int) (x1 : Int) (x7 : Int) (x8 : Int) : Option (Int) := lim fun k => slices_Index_int_int.l0 k x0 x1 x7 x8
theorem slices_Index_int_int.L0_lim (x0 : List Int) (x1 : Int) (x7 : Int) (x8 : Int) : Lim (fun k => slices_Index_int_int.l0 k x0 x1 x7 x8) (slices_Index_int_int.L0 x0 x1 x7 x8) := Lim.of fun k => (slices_Index_int_int.mono_l k) x0 x1 x7 x8
noncomputable def slices_Index_int_int.F (l0 : List Int) (a1 : Int) : Option (Int) := lim fun k => slices_Index_int_int.f k l0 a1
theorem slices_Index_int_int.F_lim (l0 : List Int) (a1 : Int) : Lim (fun k => slices_Index_int_int.f k l0 a1) (slices_Index_int_int.F l0 a1) := Lim.of fun k => slices_Index_int_int.mono l0 a1 k
theorem slices_Index_int_int.L0_eq (x0 : List Int) (x1 : Int) (x7 : Int) (x8 : Int) : slices_Index_int_int.L0 x0 x1 x7 x8 = (if x8 < x7 then (if 0 ≤ x8 then (if x8 < (x0.length : Int) then (if x1 = (rd x0 x8) then (some x8) else (slices_Index_int_int.L0 x0 x1 x7 (wrap64 (x8 + 1)))) else (none)) else (none)) else (some (-1))) :=
 Lim.step (f := fun k => slices_Index_int_int.l0 (k + 1) x0 x1 x7 x8) (slices_Index_int_int.L0_lim x0 x1 x7 x8) (fun _ => rfl) (by
  simp only [slices_Index_int_int.l0]
  repeat' (first | (with_reducible first | exact Lim.const _ | exact slices_Index_int_int.L0_lim _ _ _ _ | refine Lim.ite ?_ ?_ | refine Lim.bind ?_ (fun _ => ?_))))
theorem slices_Index_int_int.F_eq (l0 : List Int) (a1 : Int) : slices_Index_int_int.F l0 a1 = (slices_Index_int_int.L0 l0 a1 (l0.length : Int) 0) :=
 Lim.unique (slices_Index_int_int.F_lim l0 a1) (by
  unfold slices_Index_int_int.f
  repeat' (first | (with_reducible first | exact Lim.const _ | exact slices_Index_int_int.L0_lim _ _ _ _ | refine Lim.ite ?_ ?_ | refine Lim.bind ?_ (fun _ => ?_))))

end Go.Proofs.Ytadhfbchilaklaa.Fn
namespace Go.Proofs.Ytadhfbchilaklaa.Fn
open Go.RowKit Go.Proofs.YtadhfbchilaklaaW.PrintWords Go.Proofs.YtadhfbchilaklaaW.PrintLast Go.Proofs.YtadhfbchilaklaaW.PrintMore
attribute [local go_sem] max2_int min2_int max_two min_two max_three min_three max_four min_four   -- for this text's walks alone
set_option linter.unusedVariables false
set_option linter.unusedSimpArgs false

/-! ### slices_Contains_int_int: function 168 -/
def slices_Contains_int_int.f (k : Nat) (l0 : List Int) (a1 : Int) : Option (Bool) := (slices_Index_int_int.f k l0 a1).bind fun t210 => (some (decide (t210 ≥ 0)))
theorem slices_Contains_int_int.mono : ∀ a0 a1 k, LeO (slices_Contains_int_int.f k a0 a1) (slices_Contains_int_int.f (k + 1) a0 a1) := by
 intro a0 a1 k
 unfold slices_Contains_int_int.f
 repeat' (first | (with_reducible first | exact slices_Index_int_int.mono _ _ _ | exact LeO.refl _ | exact LeO.none _ | refine LeO.ite ?_ ?_ | refine LeO.bind ?_ (fun _ => ?_)) | exact slices_Index_int_int.mono _ _ _ | exact LeO.none _ | refine LeO.ite ?_ ?_ | refine LeO.bind ?_ (fun _ => ?_))
set_option maxHeartbeats 8000000 in
set_option maxRecDepth 100000 in
theorem slices_Contains_int_int.calls (k : Nat) (A0 : Option Addr) (c0 : Nat) (l0 : List Int) (a1 : Int) (r : Bool) (w : World) (hr0 : Kd.C (Kd.int .i64) w A0 l0.length l0) (hc0 : l0.length ≤ c0) (h : slices_Contains_int_int.f k l0 a1 = some r) :
  Calls Try.prog 168 #[.slice A0 l0.length c0, .int .i64 a1] w fun e w' => e = .returned (.bool r) ∧ Drawn0 w w' := by
 have HR0 := Aside0.mk hr0
 have HC0 := Aside0.mk hc0
 clear hr0 hc0
 have H := h
 unfold slices_Contains_int_int.f at H
 clear h
 replace H := Option.bind_eq_some_iff.mp H
 obtain ⟨t210, A30, H⟩ := H
 replace H : (some (decide (t210 ≥ 0))) = some r := H
 have A3 := Aside0.mk A30
 clear A30
 obtain rfl := Option.some.inj H
 go_enter Try.func168, Try.ntmps168
 go_wp2_with (first | ((with_reducible refine gate_callee (f := 249) rfl ?_); refine goesA (some 7) Try.func249 #[.slice A0 l0.length c0, .int .i64 a1] ?_; (with_reducible refine (slices_Index_int_int.calls k _ _ l0 a1 t210 _ ?side1 ?side2 A3.out).mono ?_); (case side1 => repeat (first | exact HR0.out | (with_reducible refine Kd.C_alloc ?_ _) | (with_reducible refine Kd.C_drewN ?_ _) | (with_reducible refine Kd.C_drew ?_))); (case side2 => exact HC0.out); rintro e w' ⟨rfl, ⟨nd, rfl⟩⟩; refine ⟨_, rfl, ?_⟩))
 go_ret
 exact ⟨by first | rfl | (simp; done) | (simp [*]; done), by repeat (first | exact Drawn0.refl _ | apply Drawn0.step)⟩

noncomputable def slices_Contains_int_int.F (l0 : List Int) (a1 : Int) : Option (Bool) := lim fun k => slices_Contains_int_int.f k l0 a1
theorem slices_Contains_int_int.F_lim (l0 : List Int) (a1 : Int) : Lim (fun k => slices_Contains_int_int.f k l0 a1) (slices_Contains_int_int.F l0 a1) := Lim.of fun k => slices_Contains_int_int.mono l0 a1 k
theorem slices_Contains_int_int.F_eq (l0 : List Int) (a1 : Int) : slices_Contains_int_int.F l0 a1 = ((slices_Index_int_int.F l0 a1).bind fun t210 => (some (decide (t210 ≥ 0)))) :=
 Lim.unique (slices_Contains_int_int.F_lim l0 a1) (by
  unfold slices_Contains_int_int.f
  repeat' (first | (with_reducible first | exact Lim.const _ | exact slices_Index_int_int.F_lim _ _ | refine Lim.ite ?_ ?_ | refine Lim.bind ?_ (fun _ => ?_))))

end Go.Proofs.Ytadhfbchilaklaa.Fn
namespace Go.Proofs.Ytadhfbchilaklaa.Fn
open Go.RowKit Go.Proofs.YtadhfbchilaklaaW.PrintWords Go.Proofs.YtadhfbchilaklaaW.PrintLast Go.Proofs.YtadhfbchilaklaaW.PrintMore
attribute [local go_sem] max2_int min2_int max_two min_two max_three min_three max_four min_four   -- for this text's walks alone
set_option linter.unusedVariables false
set_option linter.unusedSimpArgs false

/-! ### impl_IsDots: function 46 -/
def impl_IsDots.l0 : Nat → List Int → List Int → Int → Int → Option (Bool)
 | 0, _, _, _, _ => none
 | k + 1, x0, x5, x6, x7 => if x7 < x6 then (if 0 ≤ x7 then (if x7 < (x5.length : Int) then (if (rd x5 x7) < 0 then (some false) else (if (rd x5 x7) ≥ (x0.length : Int) then (some false) else (if x7 ≤ (x0.length : Int) then ((slices_Contains_int_int.f k (x0.take (x7 : Int).toNat) (rd x5 x7)).bind fun t461 => (if t461 = true then (some false) else (impl_IsDots.l0 k x0 x5 x6 (wrap64 (x7 + 1))))) else (none)))) else (none)) else (none)) else (if (x0.length : Int) ≥ 1 then (some (decide ((x0.length : Int) ≤ 12))) else (some false))
def impl_IsDots.f (k : Nat) (l0 : List Int) : Option (Bool) := impl_IsDots.l0 k l0 l0 (l0.length : Int) 0
theorem impl_IsDots.mono_l : ∀ k, (∀ y0 y1 y2 y3, LeO (impl_IsDots.l0 k y0 y1 y2 y3) (impl_IsDots.l0 (k + 1) y0 y1 y2 y3))
 | 0 => fun _ _ _ _ r h => by simp [impl_IsDots.l0] at h
 | k + 1 => by
  have ih0 := impl_IsDots.mono_l k
  ·intro y0 y1 y2 y3
   unfold impl_IsDots.l0
   repeat' (first | (with_reducible first | exact ih0 _ _ _ _ | exact slices_Contains_int_int.mono _ _ _ | exact LeO.refl _ | exact LeO.none _ | refine LeO.ite ?_ ?_ | refine LeO.bind ?_ (fun _ => ?_)) | exact ih0 _ _ _ _ | exact slices_Contains_int_int.mono _ _ _ | exact LeO.none _ | refine LeO.ite ?_ ?_ | refine LeO.bind ?_ (fun _ => ?_))
theorem impl_IsDots.mono : ∀ a0 k, LeO (impl_IsDots.f k a0) (impl_IsDots.f (k + 1) a0) := by
 intro a0 k
 have ih0 := impl_IsDots.mono_l k
 unfold impl_IsDots.f
 repeat' (first | (with_reducible first | exact ih0 _ _ _ _ | exact LeO.refl _ | exact LeO.none _ | refine LeO.ite ?_ ?_ | refine LeO.bind ?_ (fun _ => ?_)) | exact ih0 _ _ _ _ | exact LeO.none _ | refine LeO.ite ?_ ?_ | refine LeO.bind ?_ (fun _ => ?_))
set_option maxHeartbeats 8000000 in
set_option maxRecDepth 100000 in
theorem impl_IsDots.calls (k : Nat) (A0 : Option Addr) (c0 : Nat) (l0 : List Int) (r : Bool) (w : World) (hr0 : Kd.C (Kd.int .i64) w A0 l0.length l0) (hc0 : l0.length ≤ c0) (h : impl_IsDots.f k l0 = some r) :
  Calls Try.prog 46 #[.slice A0 l0.length c0] w fun e w' => e = .returned (.bool r) ∧ Drawn0 w w' := by
 have HR0 := Aside0.mk hr0
 have HC0 := Aside0.mk hc0
 clear hr0 hc0
 have H := h
 unfold impl_IsDots.f at H
 clear h
 have H' := Aside0.mk H
 clear H
 go_enter Try.func46, Try.ntmps46
 go_wp2
 go_loopg [7] k (fun kq v7 w' => ∃ (x7_1 : Int), v7 = .int .i64 x7_1 ∧ Aside0 (impl_IsDots.l0 kq l0 l0 (l0.length : Int) x7_1 = some r) ∧ Aside0 (kq ≤ k) ∧ Drawn0 w w')
 case atStart => exact ⟨(0), eqd, H', ⟨Nat.le_refl _⟩, by repeat (first | exact Drawn0.refl _ | apply Drawn0.step)⟩
 case round =>
  clear H'
  obtain ⟨x7_1, rfl, HA, HK1, ⟨m1, rfl⟩⟩ := hrel
  cases gk with
  | zero => exact absurd HA.out (by simp [impl_IsDots.l0])
  | succ k1 =>
   have H := HA.out
   clear HA
   simp only [impl_IsDots.l0] at H
   by_cases c2 : x7_1 < (l0.length : Int)
   ·rw [if_pos c2] at H
    have c2b0 : decide (x7_1 < (l0.length : Int)) = true := decide_eq_true c2
    clear c2
    by_cases c3 : 0 ≤ x7_1
    ·rw [if_pos c3] at H
     have c3b0 : decide (0 ≤ x7_1) = true := decide_eq_true c3
     clear c3
     by_cases c4 : x7_1 < (l0.length : Int)
     ·rw [if_pos c4] at H
      have c4b0 : decide (x7_1 < (l0.length : Int)) = true := decide_eq_true c4
      clear c4
      by_cases c5 : (rd l0 x7_1) < 0
      ·rw [if_pos c5] at H
       have c5b0 : decide ((rd l0 x7_1) < 0) = true := decide_eq_true c5
       clear c5
       obtain rfl := Option.some.inj H
       have p459 : 0 ≤ (x7_1 : Int) := ofd
       have q459 : x7_1 < (l0.length : Int) := ofd
       obtain ⟨ad459, e459, hx459_0⟩ := Kd.at_int HR0.out x7_1 p459 q459
       cases e459
       replace p459 := eq_true p459
       replace q459 := eq_true q459
       go_wp2
       go_ret
       exact ⟨by first | rfl | (simp; done) | (simp [*]; done), by repeat (first | exact Drawn0.refl _ | apply Drawn0.step)⟩
      ·rw [if_neg c5] at H
       have c5b0 : decide ((rd l0 x7_1) < 0) = false := decide_eq_false c5
       clear c5
       by_cases c6 : (rd l0 x7_1) ≥ (l0.length : Int)
       ·rw [if_pos c6] at H
        have c6b0 : decide ((l0.length : Int) ≤ (rd l0 x7_1)) = true := decide_eq_true c6
        clear c6
        obtain rfl := Option.some.inj H
        have p459 : 0 ≤ (x7_1 : Int) := ofd
        have q459 : x7_1 < (l0.length : Int) := ofd
        obtain ⟨ad459, e459, hx459_0⟩ := Kd.at_int HR0.out x7_1 p459 q459
        cases e459
        replace p459 := eq_true p459
        replace q459 := eq_true q459
        go_wp2
        go_ret
        exact ⟨by first | rfl | (simp; done) | (simp [*]; done), by repeat (first | exact Drawn0.refl _ | apply Drawn0.step)⟩
       ·rw [if_neg c6] at H
        have c6b0 : decide ((l0.length : Int) ≤ (rd l0 x7_1)) = false := decide_eq_false c6
        clear c6
        have c7b0 := eq_true (of_decide_eq_true (by first | (with_reducible assumption) | assumption) : 0 ≤ x7_1)
        by_cases c8 : x7_1 ≤ (l0.length : Int)
        ·rw [if_pos c8] at H
         have c8b0 := eq_true c8
         have c8b1 : decide (x7_1 ≤ (l0.length : Int)) = true := decide_eq_true c8
         clear c8
         replace H := Option.bind_eq_some_iff.mp H
         obtain ⟨t461, A90, H⟩ := H
         replace H : (if t461 = true then (some false) else (impl_IsDots.l0 k1 l0 l0 (l0.length : Int) (wrap64 (x7_1 + 1)))) = some r := H
         have A9 := Aside0.mk A90
         clear A90
         by_cases c10 : t461 = true
         ·subst c10
          have H1 : (some false) = some r := by rw [if_pos rfl] at H; exact H
          clear H
          have H := H1
          clear H1
          obtain rfl := Option.some.inj H
          have p459 : 0 ≤ (x7_1 : Int) := ofd
          have q459 : x7_1 < (l0.length : Int) := ofd
          obtain ⟨ad459, e459, hx459_0⟩ := Kd.at_int HR0.out x7_1 p459 q459
          cases e459
          replace p459 := eq_true p459
          replace q459 := eq_true q459
          obtain ⟨i011, hi011, _, hsz11, _⟩ := info_parts info3
          obtain ⟨hcut11, hA11, hC11⟩ := print_take_of (P := Try.prog) (Value.int .i64) 0 24 3 .i64 Try.underlying24 hi011 hsz11 (some ad459) c0 l0 x7_1 (of_decide_eq_true (by first | (with_reducible assumption) | assumption)) (of_decide_eq_true (by first | (with_reducible assumption) | assumption)) HC0.out
          have HR460 := Aside0.mk (Kd.C_of_reads (h1 := fun _ => rfl) (hA11 _ (Kd.reads_of_C HR0.out)))
          have HC460 := Aside0.mk hC11
          clear hA11 hC11 hi011 hsz11
          go_wp2_with (first | (go_at_call 168; (try rw [show (Value.slice (some ad459) x7_1.toNat c0) = Value.slice (some ad459) (l0.take (x7_1 : Int).toNat).length c0 from (by rw [List.length_take]; have h_ : (x7_1 : Int) ≤ (l0.length : Int) := (by first | exact ofd | exact Int.le_of_lt ofd); rw [Nat.min_eq_left (by omega)])]); (with_reducible refine (slices_Contains_int_int.calls k1 _ _ (l0.take (x7_1 : Int).toNat) (rd l0 x7_1) true _ ?side1 ?side2 A9.out).mono ?_); (case side1 => repeat (first | exact HR460.out | (with_reducible refine Kd.C_alloc ?_ _) | (with_reducible refine Kd.C_drewN ?_ _) | (with_reducible refine Kd.C_drew ?_))); (case side2 => exact HC460.out); rintro e w' ⟨rfl, ⟨nd, rfl⟩⟩))
          go_ret
          exact ⟨by first | rfl | (simp; done) | (simp [*]; done), by repeat (first | exact Drawn0.refl _ | apply Drawn0.step)⟩
         ·replace c10 := Bool.eq_false_iff.mpr c10
          subst c10
          have H1 : (impl_IsDots.l0 k1 l0 l0 (l0.length : Int) (wrap64 (x7_1 + 1))) = some r := by rw [if_neg (show ¬ (false = true) by decide)] at H; exact H
          clear H
          have H := H1
          clear H1
          have H' := Aside0.mk H
          clear H
          have p459 : 0 ≤ (x7_1 : Int) := ofd
          have q459 : x7_1 < (l0.length : Int) := ofd
          obtain ⟨ad459, e459, hx459_0⟩ := Kd.at_int HR0.out x7_1 p459 q459
          cases e459
          replace p459 := eq_true p459
          replace q459 := eq_true q459
          obtain ⟨i012, hi012, _, hsz12, _⟩ := info_parts info3
          obtain ⟨hcut12, hA12, hC12⟩ := print_take_of (P := Try.prog) (Value.int .i64) 0 24 3 .i64 Try.underlying24 hi012 hsz12 (some ad459) c0 l0 x7_1 (of_decide_eq_true (by first | (with_reducible assumption) | assumption)) (of_decide_eq_true (by first | (with_reducible assumption) | assumption)) HC0.out
          have HR460 := Aside0.mk (Kd.C_of_reads (h1 := fun _ => rfl) (hA12 _ (Kd.reads_of_C HR0.out)))
          have HC460 := Aside0.mk hC12
          clear hA12 hC12 hi012 hsz12
          go_wp2_with (first | (go_at_call 168; (try rw [show (Value.slice (some ad459) x7_1.toNat c0) = Value.slice (some ad459) (l0.take (x7_1 : Int).toNat).length c0 from (by rw [List.length_take]; have h_ : (x7_1 : Int) ≤ (l0.length : Int) := (by first | exact ofd | exact Int.le_of_lt ofd); rw [Nat.min_eq_left (by omega)])]); (with_reducible refine (slices_Contains_int_int.calls k1 _ _ (l0.take (x7_1 : Int).toNat) (rd l0 x7_1) false _ ?side1 ?side2 A9.out).mono ?_); (case side1 => repeat (first | exact HR460.out | (with_reducible refine Kd.C_alloc ?_ _) | (with_reducible refine Kd.C_drewN ?_ _) | (with_reducible refine Kd.C_drew ?_))); (case side2 => exact HC460.out); rintro e w' ⟨rfl, ⟨nd, rfl⟩⟩))
          go_roundg k1
          case measure => have := HK1.out; omega
          case rel => exact ⟨(wrap64 (x7_1 + 1)), eqd, H', ⟨by have := HK1.out; omega⟩, by repeat (first | exact Drawn0.refl _ | apply Drawn0.step)⟩
        ·rw [if_neg c8] at H
         exact absurd H (by simp)
     ·rw [if_neg c4] at H
      exact absurd H (by simp)
    ·rw [if_neg c3] at H
     exact absurd H (by simp)
   ·rw [if_neg c2] at H
    have c2b0 : decide (x7_1 < (l0.length : Int)) = false := decide_eq_false c2
    clear c2
    by_cases c13 : (l0.length : Int) ≥ 1
    ·rw [if_pos c13] at H
     have c13b0 : decide (1 ≤ (l0.length : Int)) = true := decide_eq_true c13
     have c13b1 : decide (1 ≤ l0.length) = true := decide_eq_true (by omega)
     clear c13
     obtain rfl := Option.some.inj H
     go_wp2
     go_ret
     exact ⟨by first | rfl | (simp; done) | (simp [*]; done), by repeat (first | exact Drawn0.refl _ | apply Drawn0.step)⟩
    ·rw [if_neg c13] at H
     have c13b0 : decide (1 ≤ (l0.length : Int)) = false := decide_eq_false c13
     have c13b1 : decide (1 ≤ l0.length) = false := decide_eq_false (by omega)
     clear c13
     obtain rfl := Option.some.inj H
     go_wp2
     go_ret
     exact ⟨by first | rfl | (simp; done) | (simp [*]; done), by repeat (first | exact Drawn0.refl _ | apply Drawn0.step)⟩

noncomputable def impl_IsDots.L0 (x0 : List Int) (x5 : List Int) (x6 : Int) (x7 : Int) : Option (Bool) := lim fun k => impl_IsDots.l0 k x0 x5 x6 x7
theorem impl_IsDots.L0_lim (x0 : List Int) (x5 : List Int) (x6 : Int) (x7 : Int) : Lim (fun k => impl_IsDots.l0 k x0 x5 x6 x7) (impl_IsDots.L0 x0 x5 x6 x7) := Lim.of fun k => (impl_IsDots.mono_l k) x0 x5 x6 x7
noncomputable def impl_IsDots.F (l0 : List Int) : Option (Bool) := lim fun k => impl_IsDots.f k l0
theorem impl_IsDots.F_lim (l0 : List Int) : Lim (fun k => impl_IsDots.f k l0) (impl_IsDots.F l0) := Lim.of fun k => impl_IsDots.mono l0 k
theorem impl_IsDots.L0_eq (x0 : List Int) (x5 : List Int) (x6 : Int) (x7 : Int) : impl_IsDots.L0 x0 x5 x6 x7 = (if x7 < x6 then (if 0 ≤ x7 then (if x7 < (x5.length : Int) then (if (rd x5 x7) < 0 then (some false) else (if (rd x5 x7) ≥ (x0.length : Int) then (some false) else (if x7 ≤ (x0.length : Int) then ((slices_Contains_int_int.F (x0.take (x7 : Int).toNat) (rd x5 x7)).bind fun t461 => (if t461 = true then (some false) else (impl_IsDots.L0 x0 x5 x6 (wrap64 (x7 + 1))))) else (none)))) else (none)) else (none)) else (if (x0.length : Int) ≥ 1 then (some (decide ((x0.length : Int) ≤ 12))) else (some false))) :=
 Lim.step (f := fun k => impl_IsDots.l0 (k + 1) x0 x5 x6 x7) (impl_IsDots.L0_lim x0 x5 x6 x7) (fun _ => rfl) (by
  simp only [impl_IsDots.l0]
  repeat' (first | (with_reducible first | exact Lim.const _ | exact impl_IsDots.L0_lim _ _ _ _ | exact slices_Contains_int_int.F_lim _ _ | refine Lim.ite ?_ ?_ | refine Lim.bind ?_ (fun _ => ?_))))
theorem impl_IsDots.F_eq (l0 : List Int) : impl_IsDots.F l0 = (impl_IsDots.L0 l0 l0 (l0.length : Int) 0) :=
 Lim.unique (impl_IsDots.F_lim l0) (by
  unfold impl_IsDots.f
  repeat' (first | (with_reducible first | exact Lim.const _ | exact impl_IsDots.L0_lim _ _ _ _ | refine Lim.ite ?_ ?_ | refine Lim.bind ?_ (fun _ => ?_))))

end Go.Proofs.Ytadhfbchilaklaa.Fn
