/- The machine's side and plain lemmas for FnCombsAndRings: texts of this session, merged by its program (part 0). -/
import Derived.Test.YtapffhnkfgkboaaVFnCombsAndRings
import Derived.Test.YtapffhnkfgkboaaProg
import Derived.Below
import Derived.Deep.Draws
import Derived.Deep.AppendLies
import Derived.Maps.AppendAt
import Derived.OwnWalk
import Derived.Laws.BytesArg
import Derived.Laws.MakeOwn
import Derived.Laws.OwnMore
import Derived.Deep.OwnRows
import Derived.Tactics
import Derived.Lib.ConvBytes
import Derived.Laws.Slices
import Derived.WalkKit
import Derived.KernelRfl
import Derived.RowKit3
import Derived.Deep.LoopGhost
import Derived.Deep.QuietTactic
import Derived.BigQuiet
import Derived.WideLaws
import Derived.Deep.DeepCutAuto
import Derived.Deep.CutBlock
import Derived.Deep.RegionHeld3
import Derived.Laws.Rows
import Derived.Lib.AppendStr
import Derived.ArgAppend
import Derived.Laws.IdiomCopy
import Derived.OrdersHeld
import Derived.Laws.BitsLemmas
import Derived.RowKit
set_option maxHeartbeats 80000000
set_option maxRecDepth 100000
namespace Go.Proofs.Ytapffhnkfgkboaa.Fn
open Go.RowKit Go.Proofs.YtapffhnkfgkboaaW.PrintWords Go.Proofs.YtapffhnkfgkboaaW.PrintLast
theorem bs_ {α β : Type} {o : Option α} {f : α → Option β} {r : β} (h : o.bind f = some r) : ∃ a, Aside0 (o = some a) ∧ f a = some r := (Option.bind_eq_some_iff.mp h).elim fun a h => ⟨a, ⟨h.1⟩, h.2⟩
theorem it_ {α : Type} {a b r : Option α} [Decidable (true = true)] (h : (if true = true then a else b) = r) : a = r := by
 rw [if_pos rfl] at h
 exact h
theorem if_ {α : Type} {a b r : Option α} [Decidable (false = true)] (h : (if false = true then a else b) = r) : b = r := by
 rw [if_neg (by simp)] at h
 exact h
theorem in0_ {α : Type} {c : Prop} [Decidable c] {a : Option α} {r : α} (h : (if c then a else none) = some r) : c ∧ a = some r := by
 by_cases hc : c
 ·exact ⟨hc, (if_pos hc).symm.trans h⟩
 ·rw [if_neg hc] at h
  cases h
theorem in_ {α : Type} {c : Prop} [Decidable c] {a : Option α} {r : α} (h : (if c then a else none) = some r) : decide c = true ∧ a = some r := (in0_ h).imp_left decide_eq_true
theorem in2_ {α : Type} {c : Prop} [Decidable c] {a : Option α} {r : α} (h : (if c then a else none) = some r) : (c = True) ∧ decide c = true ∧ a = some r := ⟨eq_true (in0_ h).1, decide_eq_true (in0_ h).1, (in0_ h).2⟩
noncomputable def lim {α : Type} (g : Nat → Option α) : Option α := open Classical in if h : ∃ k r, g k = some r then g (Classical.choose h) else none
structure Lim {α : Type} (g : Nat → Option α) (a : Option α) : Prop where
  mono : ∀ k, LeO (g k) (g (k + 1))
  comes : ∀ r, a = some r ↔ ∃ k, g k = some r
theorem lim_some {α : Type} {g : Nat → Option α} (hg : ∀ k, LeO (g k) (g (k + 1))) (r : α) : lim g = some r ↔ ∃ k, g k = some r := by
  unfold lim
  constructor
  · intro h
    split at h
    · exact ⟨_, h⟩
    · cases h
  · rintro ⟨k, hk⟩
    have hx : ∃ k r, g k = some r := ⟨k, r, hk⟩
    rw [dif_pos hx]
    obtain ⟨r', hr'⟩ := Classical.choose_spec hx
    have h1 := at_rounds hg (Nat.le_max_left k (Classical.choose hx)) hk
    have h2 := at_rounds hg (Nat.le_max_right k (Classical.choose hx)) hr'
    rw [h1] at h2
    rw [hr', h2]
theorem Lim.of {α : Type} {g : Nat → Option α} (hg : ∀ k, LeO (g k) (g (k + 1))) : Lim g (lim g) := ⟨hg, lim_some hg⟩
theorem Lim.unique {α : Type} {g : Nat → Option α} {a b : Option α} (ha : Lim g a) (hb : Lim g b) : a = b := by
  have h : ∀ r, a = some r ↔ b = some r := fun r => (ha.comes r).trans (hb.comes r).symm
  cases a with
  | none =>
    cases b with
    | none => rfl
    | some r => exact absurd ((h r).2 rfl) (by simp)
  | some r => exact ((h r).1 rfl).symm
theorem Lim.const {α : Type} (a : Option α) : Lim (fun _ => a) a := ⟨fun _ => LeO.refl _, fun _ => ⟨fun h => ⟨0, h⟩, fun ⟨_, h⟩ => h⟩⟩
theorem Lim.ite {α : Type} {c : Prop} [Decidable c] {g f : Nat → Option α} {a b : Option α} (hg : Lim g a) (hf : Lim f b) : Lim (fun k => if c then g k else f k) (if c then a else b) := by
  by_cases h : c
  · simp only [if_pos h]
    exact hg
  · simp only [if_neg h]
    exact hf
theorem Lim.bind {α β : Type} {g : Nat → Option α} {f : Nat → α → Option β} {a : Option α} {b : α → Option β} (hg : Lim g a) (hf : ∀ x, Lim (fun k => f k x) (b x)) : Lim (fun k => (g k).bind (f k)) (a.bind b) := by
  refine ⟨fun k => LeO.bind (hg.mono k) (fun x => (hf x).mono k), fun r => ⟨fun h => ?_, fun ⟨k, h⟩ => ?_⟩⟩
  · obtain ⟨x, hx, hb⟩ := Option.bind_eq_some_iff.1 h
    obtain ⟨k, hk⟩ := (hg.comes x).1 hx
    obtain ⟨k', hk'⟩ := ((hf x).comes r).1 hb
    refine ⟨max k k', Option.bind_eq_some_iff.2 ⟨x, at_rounds hg.mono (Nat.le_max_left _ _) hk, ?_⟩⟩
    exact at_rounds (g := fun k => f k x) (hf x).mono (Nat.le_max_right _ _) hk'
  · obtain ⟨x, hx, hb⟩ := Option.bind_eq_some_iff.1 h
    exact Option.bind_eq_some_iff.2 ⟨x, (hg.comes x).2 ⟨k, hx⟩, ((hf x).comes r).2 ⟨k, hb⟩⟩
theorem Lim.step {α : Type} {g f : Nat → Option α} {a b : Option α} (ha : Lim g a) (hs : ∀ k, g (k + 1) = f k) (hf : Lim f b) : a = b := by
  refine Lim.unique (g := f) ⟨hf.mono, fun r => (ha.comes r).trans ⟨fun ⟨k, h⟩ => ⟨k, ?_⟩, fun ⟨k, h⟩ => ⟨k + 1, (hs k).trans h⟩⟩⟩ hf
  rw [← hs]
  exact ha.mono k r h
theorem Lim.rounds {α : Type} {g : Nat → Option α} {a : Option α} {r : α} (h : Lim g a) (e : a = some r) : ∃ k, g k = some r := (h.comes r).1 e
theorem wrap_in {n : Int} (h0 : -9223372036854775808 ≤ n) (h1 : n ≤ 9223372036854775807) : wrap64 n = n := by
  unfold wrap64
  omega
theorem rd_mid (pre : List Int) (x : Int) (suf : List Int) : rd (pre ++ x :: suf) (pre.length : Int) = x := by
  unfold rd
  simp
theorem rd_nat (l : List Int) (i : Nat) (h : i < l.length) : rd l (i : Int) = l[i] := by
  unfold rd
  simp [List.getD_eq_getElem?_getD, List.getElem?_eq_getElem h]
theorem range_step {α : Type} {pre : List Int} {x : Int} {suf : List Int} {b n1 n2 e : α} : (if (pre.length : Int) < ((pre ++ x :: suf).length : Int) then (if 0 ≤ (pre.length : Int) then (if (pre.length : Int) < ((pre ++ x :: suf).length : Int) then b else n1) else n2) else e) = b := by
  have h : (pre.length : Int) < ((pre ++ x :: suf).length : Int) := by rw [List.length_append, List.length_cons]; omega
  rw [if_pos h, if_pos (by omega), if_pos h]
theorem range_end {α : Type} {pre : List Int} {b e : α} : (if (pre.length : Int) < ((pre ++ []).length : Int) then b else e) = e := by
  rw [if_neg (by simp)]
theorem wrap_mid {pre : List Int} {x : Int} {suf : List Int} (h : (pre ++ x :: suf).length < 4611686018427387904) : wrap64 ((pre.length : Int) + 1) = ((pre ++ [x]).length : Int) := by
  have h1 : pre.length + 1 ≤ (pre ++ x :: suf).length := by rw [List.length_append, List.length_cons]; omega
  rw [wrap_in (by omega) (by omega)]
  simp
theorem app_mid (pre : List Int) (x : Int) (suf : List Int) : pre ++ x :: suf = (pre ++ [x]) ++ suf := by simp
section
variable {α : Type} {d : Kd α} {e base : Nat} {ok : Nat → Prop} {v : Value} {xs : List α} {w0 w w1 w2 : World}
theorem upR (h : Aside0 (Kd.R d e w base ok v xs)) (hb : Below w1.heap.size w1 w2) (hm : Below w.heap.size w w1 := by (with_reducible repeat (first | exact Below.refl _ _ | apply below_alloc | apply pw_below_drewN | apply below_drew1))) : Aside0 (Kd.R d e w2 base ok v xs) := ⟨Kd.R_below h.out (hm.trans (hb.mono hm.size))⟩
theorem upS (h : Aside0 (Kd.S d e w base ok v xs)) (hb : Below w1.heap.size w1 w2) (hm : Below w.heap.size w w1 := by (with_reducible repeat (first | exact Below.refl _ _ | apply below_alloc | apply pw_below_drewN | apply below_drew1))) : Aside0 (Kd.S d e w2 base ok v xs) := ⟨Kd.S_below h.out (hm.trans (hb.mono hm.size))⟩
theorem upC {A : Option Addr} {n : Nat} (h : Aside0 (Kd.C d w A n xs)) (hb : Below w1.heap.size w1 w2) (hm : Below w.heap.size w w1 := by (with_reducible repeat (first | exact Below.refl _ _ | apply below_alloc | apply pw_below_drewN | apply below_drew1))) : Aside0 (Kd.C d w2 A n xs) := ⟨Kd.C_below h.out (hm.trans (hb.mono hm.size))⟩
theorem atC {A : Option Addr} {n : Nat} (h : Aside0 (Kd.C d w A n xs)) (hm : Below w.heap.size w w1 := by (with_reducible repeat (first | exact Below.refl _ _ | apply below_alloc | apply pw_below_drewN | apply below_drew1))) : Kd.C d w1 A n xs := Kd.C_below h.out hm
theorem atRC {A : Option Addr} {n c : Nat} (h : Aside0 (Kd.R d e w base ok (.slice A n c) xs)) (hm : Below w.heap.size w w1 := by (with_reducible repeat (first | exact Below.refl _ _ | apply below_alloc | apply pw_below_drewN | apply below_drew1))) : Kd.C d w1 A xs.length xs := Kd.C_below (Kd.R_reads' h.out).2.2 hm
theorem upB (h : Aside0 (Below w0.heap.size w0 w)) (hb : Below w1.heap.size w1 w2) (hm : Below w.heap.size w w1 := by (with_reducible repeat (first | exact Below.refl _ _ | apply below_alloc | apply pw_below_drewN | apply below_drew1))) : Aside0 (Below w0.heap.size w0 w2) := ⟨below_step (below_step h.out hm) hb⟩
theorem atB (h : Aside0 (Below w0.heap.size w0 w)) (hm : Below w.heap.size w w1 := by (with_reducible repeat (first | exact Below.refl _ _ | apply below_alloc | apply pw_below_drewN | apply below_drew1))) : Below w0.heap.size w0 w1 := below_step h.out hm
theorem lowR (h : Kd.R d e w2 w1.heap.size ok v xs) (hB : Aside0 (Below w0.heap.size w0 w)) (hm : Below w.heap.size w w1 := by (with_reducible repeat (first | exact Below.refl _ _ | apply below_alloc | apply pw_below_drewN | apply below_drew1))) : Aside0 (Kd.R d e w2 w0.heap.size ok v xs) := ⟨Kd.R_lower h (below_size (below_step hB.out hm))⟩
theorem upK {g : Nat} (hK : Aside0 (KeepBut w0 w g none)) (hk : KeepBut w1 w2 g none) (hm : Below w.heap.size w w1 := by (with_reducible repeat (first | exact Below.refl _ _ | apply below_alloc | apply pw_below_drewN | apply below_drew1))) : Aside0 (KeepBut w0 w2 g none) := ⟨(hK.out.trans (KeepBut.of_below hm g none) (.inl rfl)).trans hk (.inl rfl)⟩
theorem upKB {g : Nat} (hK : Aside0 (KeepBut w0 w g none)) (hb : Below w1.heap.size w1 w2) (hm : Below w.heap.size w w1 := by (with_reducible repeat (first | exact Below.refl _ _ | apply below_alloc | apply pw_below_drewN | apply below_drew1))) : Aside0 (KeepBut w0 w2 g none) := ⟨(hK.out.trans (KeepBut.of_below hm g none) (.inl rfl)).trans (KeepBut.of_below hb g none) (.inl rfl)⟩
theorem lowKR {g : Nat} (h : Kd.R d e w2 w1.heap.size ok v xs) (hK : Aside0 (KeepBut w0 w g none)) (hm : Below w.heap.size w w1 := by (with_reducible repeat (first | exact Below.refl _ _ | apply below_alloc | apply pw_below_drewN | apply below_drew1))) : Aside0 (Kd.R d e w2 w0.heap.size ok v xs) := ⟨Kd.R_lower h (keep_size (hK.out.trans (KeepBut.of_below hm g none) (.inl rfl)))⟩
theorem lowKS {g : Nat} (h : Kd.S d e w2 w1.heap.size ok v xs) (hK : Aside0 (KeepBut w0 w g none)) (hm : Below w.heap.size w w1 := by (with_reducible repeat (first | exact Below.refl _ _ | apply below_alloc | apply pw_below_drewN | apply below_drew1))) : Aside0 (Kd.S d e w2 w0.heap.size ok v xs) := ⟨Kd.S_lower h (keep_size (hK.out.trans (KeepBut.of_below hm g none) (.inl rfl)))⟩
theorem szK {g : Nat} (hK : Aside0 (KeepBut w0 w g none)) (hm : Below w.heap.size w w1 := by (with_reducible repeat (first | exact Below.refl _ _ | apply below_alloc | apply pw_below_drewN | apply below_drew1))) : w0.heap.size ≤ w1.heap.size := keep_size (hK.out.trans (KeepBut.of_below hm g none) (.inl rfl))
theorem szB (hB : Aside0 (Below w0.heap.size w0 w)) (hm : Below w.heap.size w w1 := by (with_reducible repeat (first | exact Below.refl _ _ | apply below_alloc | apply pw_below_drewN | apply below_drew1))) : w0.heap.size ≤ w1.heap.size := below_size (below_step hB.out hm)
theorem ltR (h : Aside0 (Kd.R d e w base ok v xs)) (hm : Below w.heap.size w w1 := by (with_reducible repeat (first | exact Below.refl _ _ | apply below_alloc | apply pw_below_drewN | apply below_drew1))) : ∀ k, v.ownBlock = some k → k < w1.heap.size := Kd.R_lt (Kd.R_below h.out hm)
theorem eldRR {β : Type} {d' : Kd β} {e' : Nat} {ok' : Nat → Prop} {u : Value} {ys : List β} (h : Aside0 (Kd.R d e w base ok v xs)) (h2 : Kd.R d' e' w2 w1.heap.size ok' u ys) (hb : Below w1.heap.size w1 w2) (hm : Below w.heap.size w w1 := by (with_reducible repeat (first | exact Below.refl _ _ | apply below_alloc | apply pw_below_drewN | apply below_drew1))) : Aside0 (Kd.R d e w2 base (fun k => ok k ∧ some k ≠ u.ownBlock) v xs) := ⟨Kd.R_elder' (Kd.R_below h.out hm) (Kd.R_base h2) hb⟩
theorem atR (h : Aside0 (Kd.R d e w base ok v xs)) (hm : Below w.heap.size w w1 := by (with_reducible repeat (first | exact Below.refl _ _ | apply below_alloc | apply pw_below_drewN | apply below_drew1))) : Kd.R d e w1 base ok v xs := Kd.R_below h.out hm
theorem atK {g : Nat} (hK : Aside0 (KeepBut w0 w g none)) (hm : Below w.heap.size w w1 := by (with_reducible repeat (first | exact Below.refl _ _ | apply below_alloc | apply pw_below_drewN | apply below_drew1))) : KeepBut w0 w1 g none := hK.out.trans (KeepBut.of_below hm g none) (.inl rfl)
end
theorem N_lit0 {P : Program} {ops : Array Oper} {rest : List Oper} {o : Oper} {a : Act} {Q : Exit → Act → World → Prop} {α : Type} (d : Kd α) {W : World} (e : Nat) (hg : o.guard = none) {N' : Tmp} (hd : o.dst = some N') {xs : List α} {inner : List Value} {ok okp : Nat → Prop}
    (hr : Go.Sem.run P (execOp a.eval o) W = .ok (.value (.slice (some { block := W.heap.size, off := 0 }) xs.length xs.length)) (W.alloc (.cells inner.toArray e))) (hp : Reps (d.FK W okp) d.sz xs inner) (hk : ∀ k : Nat, okp k → ok k) (h0 : ok W.heap.size) (hl : xs.length ≤ 9223372036854775807)
    (h : ∀ (v1 : Value) (w1 : World), d.N e w1 W.heap.size ok v1 xs → Below W.heap.size W w1 → W.grownBy w1 none → (∃ b, v1.ownBlock = some b ∧ W.heap.size ≤ b) → wpList P ops Q rest (a.put o.dst v1) w1) : wpList P ops Q (o :: rest) a W :=
  Kd.N_lit d (w0 := W) W.heap.size e hg hd hr hp hk h0 (Below.refl _ _) (Nat.le_refl _) hl h
theorem repsI {W : World} {b : Nat} {ok : Nat → Prop} : ∀ xs : List Int, Reps (Kd.M (Kd.int .i64) W b ok) 1 xs (xs.map (Value.int .i64))
  | [] => Reps.none _ _
  | _ :: xs => Reps.one rfl (repsI xs)
theorem eqd {β : Sort _} {a b : β} (h : a = b := by first | rfl | (simp; done) | (simp [*]; done)) : a = b := h
theorem eqr {β : Sort _} {a b : β} (h : a = b := by first | rfl | (simp [errW_none, errW_some] <;> rfl) | (simp [*, errW_none, errW_some] <;> rfl)) : a = b := h
theorem leD {a b : Nat} (h : a ≤ b := by first | omega | exact Nat.le_refl _) : a ≤ b := h
theorem ofd {p : Prop} [Decidable p] (h : decide p = true := by first | (with_reducible assumption) | assumption) : p := of_decide_eq_true h
theorem goesA {P : Program} {ops : Array Oper} {Q : Exit → Act → World → Prop} {rest : List Oper} {oi : Oper} {a : Act} {w : World} {f : FuncId} {fn : Func} {opers : Array Operand} {ts : Array TypeId} (N : Option Tmp) (hf : P.funcs[f]? = some fn) (args : Array Value) (h : Calls P f args w fun e w' => ∃ v, e = .returned v ∧ wpList P ops Q rest (a.put N v) w') (hd : oi.dst = N := by exact rfl) (hg : oi.guard = none := by exact rfl) (hname : (fn.name == "runtime.NumGoroutine") = false := by kernel_rfl) (hb : fn.body.isSome = true := by exact rfl) (hop : oi.op = .call { callee := .value (.func f), args := opers, argTypes := ts } := by exact rfl) (hargs : opers.map a.eval = args := by ((try simp only [List.map_toArray, List.map_cons, List.map_nil]); first | done | rfl | (simp only [List.length_drop, List.length_take]; rfl))) : wpList P ops Q (oi :: rest) a w := goesL_ N hd hg hf hname hb args hop hargs h
theorem lt_of_cells {w : World} {k : Nat} {o : Obj} (h : w.heap[k]? = some o) : k < w.heap.size := (Array.getElem?_eq_some_iff.1 h).1
def KeepI (e : Nat) (Y : Nat → Prop) (w w' : World) : Prop := ∀ k cells, ¬ Y k → w.heap[k]? = some (.cells cells e (0, 0)) → w'.heap[k]? = some (.cells cells e (0, 0))
theorem KeepI.refl (e : Nat) (Y : Nat → Prop) (w : World) : KeepI e Y w w := fun _ _ _ h => h
theorem KeepI.trans {e : Nat} {Y : Nat → Prop} {w w1 w2 : World} (h : KeepI e Y w w1) (h2 : KeepI e Y w1 w2) : KeepI e Y w w2 := fun k cells hk hc => h2 k cells hk (h k cells hk hc)
theorem KeepI.of_below {e : Nat} {Y : Nat → Prop} {w w1 : World} (h : Below w.heap.size w w1) : KeepI e Y w w1 := fun k _ _ hc => (h.block k (lt_of_cells hc)).trans hc
theorem KeepI.R {α : Type} {d : Kd α} {e : Nat} {Y : Nat → Prop} {w w1 : World} {base : Nat} {v : Value} {xs : List α} (hk : KeepI e Y w w1) (hE : d.E = []) (h : Kd.R d e w base (fun k => ¬ Y k) v xs) : Kd.R d e w1 base (fun k => ¬ Y k) v xs :=
  Kd.R_mono (Kd.R_move (Kd.R_bound h) (fun k hk' => by
    obtain ⟨h1, _, _, q, hq, cells, hc⟩ := hk'
    rw [hE] at hq
    have : q = e := by simpa using hq
    subst this
    rw [hk k cells h1 hc, hc])) (fun _ h => h.1)
structure EachR (P : Program) {σ : Type} (e base : Nat) (Y : Nat → Prop) (fid : FuncId) (caps : Array Value) (each : σ → List Int → Option (σ × Bool)) (I : σ → World → Prop) : Prop where
  fn : ∃ fn, P.funcs[fid]? = some fn ∧ (fn.name == "runtime.NumGoroutine") = false ∧ fn.body.isSome = true
  stable : ∀ s w w', I s w → Below w.heap.size w w' → I s w'
  fresh : ∀ s w k, I s w → w.heap.size ≤ k → ¬ Y k
  call : ∀ s row A c w0 w s' b, I s w0 → base ≤ w0.heap.size → Below w0.heap.size w0 w → Kd.R (Kd.int .i64) e w w0.heap.size (fun k => ¬ Y k) (.slice A row.length c) row → row.length ≤ 1000 → each s row = some (s', b) → Calls P fid (#[.slice A row.length c] ++ caps) w fun o w' => o = .returned (.bool b) ∧ I s' w' ∧ Below base w w' ∧ KeepI e Y w w'
section
variable {P : Program} {ops : Array Oper} {Q : Exit → Act → World → Prop}
theorem goesF_ {rest : List Oper} {oi : Oper} {a : Act} {w : World} (N : Option Tmp) (hd : oi.dst = N) (hg : oi.guard = none) {f : FuncId} {fn : Func} {p : Tmp} {xs : Array Operand} {ts : Array TypeId} {caps : Array Value} (hf : P.funcs[f]? = some fn) (hname : (fn.name == "runtime.NumGoroutine") = false) (hb : fn.body.isSome = true) (args : Array Value)
    (hop : oi.op = .call { callee := .value (.tmp p), args := xs, argTypes := ts }) (hv : a.eval (.tmp p) = .func (.func f) #[] caps) (hargs : xs.map a.eval = args)
    (h : Calls P f (args ++ caps) w fun e w' => ∃ v, e = .returned v ∧ wpList P ops Q rest (a.put N v) w') : wpList P ops Q (oi :: rest) a w := by
  refine wpList_plain hg fun K hK => ?_
  have he := enters_ hf hname hb (args ++ caps) w
  have hrun : (execOp a.eval oi).run P w = .ok (.enter f (args ++ caps)) w := by
    unfold execOp
    simp [hop, resolve, Deferred.ofValue, invoke, hv, hargs, he]
  unfold Oper.wp
  rw [hrun, Oper.upon_enter]
  refine h.mono fun e w'' hh => ?_
  obtain ⟨v, rfl, hk⟩ := hh
  subst hd
  exact hK _ _ hk
theorem gate_fval {o : Oper} {rest : List Oper} {a : Act} {W : World} {p : Tmp} {xs : Array Operand} {ts : Array TypeId} (_ho : o.op = .call { callee := .value (.tmp p), args := xs, argTypes := ts }) (h : wpList P ops Q (o :: rest) a W) : wpList P ops Q (o :: rest) a W := h
end
def codeAt : List Nat → Code → Code
  | [], c => c
  | 0 :: p, .seq a _ => codeAt p a
  | 1 :: p, .seq _ b => codeAt p b
  | 0 :: p, .cond _ a _ => codeAt p a
  | 1 :: p, .cond _ _ b => codeAt p b
  | 0 :: p, .block _ b => codeAt p b
  | 0 :: p, .loop b => codeAt p b
  | _ :: _, c => c
def bodyAt (f : Func) : Code := f.body.getD .skip
end Go.Proofs.Ytapffhnkfgkboaa.Fn
namespace Go.Proofs.Ytapffhnkfgkboaa.Fn
open Go.RowKit Go.Proofs.YtapffhnkfgkboaaW.PrintWords Go.Proofs.YtapffhnkfgkboaaW.PrintLast Go.Proofs.YtapffhnkfgkboaaW.PrintMore
attribute [local go_sem] max2_int min2_int max_two min_two max_three min_three max_four min_four
set_option linter.unusedVariables false
set_option linter.unusedSimpArgs false
def errW : Option Int → Value
  | none => .nilIface
  | some c => .iface 0 (.int .i64 c)
theorem errW_none : errW none = .nilIface := rfl
theorem errW_some (c : Int) : errW (some c) = .iface 0 (.int .i64 c) := rfl
theorem info3 : (Try.prog.info? 3).map (fun i => (i.zero, i.size, i.bytes)) = some (some (.int .i64 0), 1, 8) := by kernel_rfl
theorem info24 : (Try.prog.info? 24).map (fun i => (i.zero, i.size, i.bytes)) = some (some (.slice none 0 0), 1, 24) := by kernel_rfl
def rd_L2 (xs : List (List Int)) (i : Int) : (List Int) := xs.getD i.toNat ([] : List Int)
theorem at_L2 {w : World} {A : Option Addr} {n : Nat} {xs : List (List Int)} (h : Kd.C (Kd.slice 3 (Kd.int .i64)) w A n xs) (i : Int) (h0 : 0 ≤ i) (h1 : i < n) : ∃ ad A0 c0, A = some ad ∧ w.cell? (ad.add i.toNat) = some (.slice A0 (rd_L2 xs i).length c0) ∧ (rd_L2 xs i).length ≤ c0 ∧ (Kd.int .i64).C w A0 (rd_L2 xs i).length (rd_L2 xs i) := by
  obtain ⟨ad, c, e, _, hK, hc0⟩ := Kd.C_get h ([] : List Int) i h0 h1
  have hc : ∀ j u, c[j]? = some u → w.cell? (ad.add (i.toNat * 1 + j)) = some u := hc0
  obtain ⟨A0, c0, rfl, l0, g0⟩ := hK
  exact ⟨ad, A0, c0, e, by have hq := hc 0 _ rfl; rwa [Nat.mul_one, Nat.add_zero] at hq, l0, g0⟩
def IsS48 (w0 W : World) (g : Nat) (f0 : List Int) (f1 : Int) (f2 : Int) : Prop := ∃ A0 c0, W.heap[g]? = some (.cells #[.slice A0 f0.length c0, .int .i64 f1, .int .u64 f2] 48 (0, 0)) ∧ w0.heap.size ≤ g ∧ Kd.C (Kd.int .u8) w0 A0 f0.length f0
theorem IsS48.grown {w0 W : World} {g : Nat} {f0 : List Int} {f1 : Int} {f2 : Int} {W1 : World} {row : Option Nat} (h : IsS48 w0 W g f0 f1 f2) (hw : W.grownBy W1 row) (hne : some g ≠ row) : IsS48 w0 W1 g f0 f1 f2 := by
  obtain ⟨A0, c0, hb, hg, hr0⟩ := h
  exact ⟨A0, c0, blk_grown hb hw hne, hg, hr0⟩
theorem IsS48.fresh {w0 W : World} {g : Nat} {f0 : List Int} {f1 : Int} {f2 : Int} (h : IsS48 w0 W g f0 f1 f2) : ∀ k, W.heap.size ≤ k → k ≠ g := by
  obtain ⟨A0, c0, hb, hg, hr0⟩ := h
  exact Kd.freshB hb
theorem IsS48.below {w0 W : World} {g : Nat} {f0 : List Int} {f1 : Int} {f2 : Int} {W1 : World} (h : IsS48 w0 W g f0 f1 f2) (hw : Below W.heap.size W W1) : IsS48 w0 W1 g f0 f1 f2 := h.grown (grown_of_below hw none) (by simp)
theorem IsS48.up {w0 W : World} {g : Nat} {f0 : List Int} {f1 : Int} {f2 : Int} {W1 W2 : World} (h : Aside0 (IsS48 w0 W g f0 f1 f2)) (hb : Below W1.heap.size W1 W2) (hm : Below W.heap.size W W1 := by (with_reducible repeat (first | exact Below.refl _ _ | apply below_alloc | apply pw_below_drewN | apply below_drew1))) : Aside0 (IsS48 w0 W2 g f0 f1 f2) := ⟨IsS48.below h.out (hm.trans (hb.mono hm.size))⟩
theorem IsS48.at {w0 W : World} {g : Nat} {f0 : List Int} {f1 : Int} {f2 : Int} {W1 : World} (h : Aside0 (IsS48 w0 W g f0 f1 f2)) (hm : Below W.heap.size W W1 := by (with_reducible repeat (first | exact Below.refl _ _ | apply below_alloc | apply pw_below_drewN | apply below_drew1))) : IsS48 w0 W1 g f0 f1 f2 := IsS48.below h.out hm
theorem IsS48.alloc {w0 W : World} {g : Nat} {f0 : List Int} {f1 : Int} {f2 : Int} (h : IsS48 w0 W g f0 f1 f2) (o : Obj) : IsS48 w0 (W.alloc o) g f0 f1 f2 := h.below (below_alloc (Below.refl _ _) o)
theorem IsS48.drewN {w0 W : World} {g : Nat} {f0 : List Int} {f1 : Int} {f2 : Int} (h : IsS48 w0 W g f0 f1 f2) (m : Nat) : IsS48 w0 (W.drewN m) g f0 f1 f2 := h
theorem IsS48.drew {w0 W : World} {g : Nat} {f0 : List Int} {f1 : Int} {f2 : Int} (h : IsS48 w0 W g f0 f1 f2) : IsS48 w0 W.drew g f0 f1 f2 := h
theorem IsS48.at_ {w0 W : World} {g : Nat} {f0 : List Int} {f1 : Int} {f2 : Int} {w' : World} {m : Nat} (hq : W.drewN m = w') (h : IsS48 w0 W g f0 f1 f2) : IsS48 w0 w' g f0 f1 f2 := by subst hq; exact IsS48.drewN h m
theorem IsS48.apart {w0 W : World} {g : Nat} {f0 : List Int} {f1 : Int} {f2 : Int} {α : Type} {d : Kd α} {e : Nat} {base : Nat} {ok : Nat → Prop} {v : Value} {xs : List α} (h : IsS48 w0 W g f0 f1 f2) (ho : d.R e W base ok v xs) (ht : ∀ q, q ∈ e :: d.E → q ≠ 48) : d.R e W base (fun k => ok k ∧ k ≠ g) v xs := by
  obtain ⟨A0, c0, hb, hg, hr0⟩ := h
  exact Kd.R_types ho hb ht
theorem IsS48.keepR {w0 W : World} {g : Nat} {f0 : List Int} {f1 : Int} {f2 : Int} {α : Type} {d : Kd α} {e : Nat} {base : Nat} {ok : Nat → Prop} {v : Value} {xs : List α} {Wr W1 W2 : World} (hI : Aside0 (IsS48 w0 W g f0 f1 f2)) (ho : Aside0 (Kd.R d e Wr base ok v xs)) (hk : KeepBut W1 W2 g none) (hm : Below W.heap.size W W1 := by (with_reducible repeat (first | exact Below.refl _ _ | apply below_alloc | apply pw_below_drewN | apply below_drew1))) (hn : Below Wr.heap.size Wr W1 := by (with_reducible repeat (first | exact Below.refl _ _ | apply below_alloc | apply pw_below_drewN | apply below_drew1))) (hd : ∀ q, q ∈ e :: d.E → q ≠ 48 := by decide) : Aside0 (Kd.R d e W2 base ok v xs) :=
  ⟨Kd.R_mono (Kd.R_keep (IsS48.apart (IsS48.below hI.out hm) (Kd.R_below ho.out hn) hd) hk (fun _ h => h.2)) (fun _ h => h.1)⟩
theorem IsS48.own_ne {w0 W : World} {g : Nat} {f0 : List Int} {f1 : Int} {f2 : Int} {α : Type} {d : Kd α} {e : Nat} {base : Nat} {ok : Nat → Prop} {v : Value} {xs : List α} (h : IsS48 w0 W g f0 f1 f2) (ho : d.R e W base ok v xs) (ht : e ≠ 48) : some g ≠ v.ownBlock := by
  obtain ⟨A0, c0, hb, hg, hr0⟩ := h
  exact Kd.R_ne ho hb ht
theorem IsS48.apartS {w0 W : World} {g : Nat} {f0 : List Int} {f1 : Int} {f2 : Int} {α : Type} {d : Kd α} {e : Nat} {base : Nat} {ok : Nat → Prop} {v : Value} {xs : List α} (h : IsS48 w0 W g f0 f1 f2) (ho : d.S e W base ok v xs) (ht : ∀ q, q ∈ e :: d.E → q ≠ 48) : d.S e W base (fun k => ok k ∧ k ≠ g) v xs := by
  obtain ⟨A0, c0, hb, hg, hr0⟩ := h
  exact Kd.S_types ho hb ht
theorem IsS48.keepS {w0 W : World} {g : Nat} {f0 : List Int} {f1 : Int} {f2 : Int} {α : Type} {d : Kd α} {e : Nat} {base : Nat} {ok : Nat → Prop} {v : Value} {xs : List α} {Wr W1 W2 : World} (hI : Aside0 (IsS48 w0 W g f0 f1 f2)) (ho : Aside0 (Kd.S d e Wr base ok v xs)) (hk : KeepBut W1 W2 g none) (hm : Below W.heap.size W W1 := by (with_reducible repeat (first | exact Below.refl _ _ | apply below_alloc | apply pw_below_drewN | apply below_drew1))) (hn : Below Wr.heap.size Wr W1 := by (with_reducible repeat (first | exact Below.refl _ _ | apply below_alloc | apply pw_below_drewN | apply below_drew1))) (hd : ∀ q, q ∈ e :: d.E → q ≠ 48 := by decide) : Aside0 (Kd.S d e W2 base ok v xs) :=
  ⟨Kd.S_mono (Kd.S_keep (IsS48.apartS (IsS48.below hI.out hm) (Kd.S_below ho.out hn) hd) hk (fun _ h => h.2)) (fun _ h => h.1)⟩
theorem IsS48.ge {w0 W : World} {g : Nat} {f0 : List Int} {f1 : Int} {f2 : Int} (h : IsS48 w0 W g f0 f1 f2) : w0.heap.size ≤ g := by
  obtain ⟨A0, c0, hb, hg, hr0⟩ := h
  exact hg
theorem IsS48.far {w0 W : World} {g : Nat} {f0 : List Int} {f1 : Int} {f2 : Int} {p : Addr} (h : IsS48 w0 W g f0 f1 f2) (hne : g ≠ p.block) (u : Value) : IsS48 w0 (W.setCell p u) g f0 f1 f2 := by
  obtain ⟨A0, c0, hb, hg, hr0⟩ := h
  exact ⟨A0, c0, blk_far hb hne u, hg, hr0⟩
theorem cellS48_0 {W : World} {g : Nat} {A0 : Option Addr} {c0 : Nat} {f0 : List Int} {f1 : Int} {f2 : Int} (h : W.heap[g]? = some (.cells #[.slice A0 f0.length c0, .int .i64 f1, .int .u64 f2] 48 (0, 0))) : W.cell? ⟨g, 0, none⟩ = some (.slice A0 f0.length c0) := (blk_cell h 0).trans rfl
theorem cellS48_1 {W : World} {g : Nat} {A0 : Option Addr} {c0 : Nat} {f0 : List Int} {f1 : Int} {f2 : Int} (h : W.heap[g]? = some (.cells #[.slice A0 f0.length c0, .int .i64 f1, .int .u64 f2] 48 (0, 0))) : W.cell? ⟨g, 1, none⟩ = some (.int .i64 f1) := (blk_cell h 1).trans rfl
theorem IsS48.set_1 {w0 W : World} {g : Nat} {f0 : List Int} {f1 : Int} {f2 : Int} (h : IsS48 w0 W g f0 f1 f2) (x : Int) : IsS48 w0 (W.setCell ⟨g, 1, none⟩ (.int .i64 x)) g f0 x f2 := by
  obtain ⟨A0, c0, hb, hg, hr0⟩ := h
  exact ⟨A0, c0, by simpa using blk_set hb 1 (.int .i64 x), hg, hr0⟩
theorem cellS48_2 {W : World} {g : Nat} {A0 : Option Addr} {c0 : Nat} {f0 : List Int} {f1 : Int} {f2 : Int} (h : W.heap[g]? = some (.cells #[.slice A0 f0.length c0, .int .i64 f1, .int .u64 f2] 48 (0, 0))) : W.cell? ⟨g, 2, none⟩ = some (.int .u64 f2) := (blk_cell h 2).trans rfl
theorem IsS48.set_2 {w0 W : World} {g : Nat} {f0 : List Int} {f1 : Int} {f2 : Int} (h : IsS48 w0 W g f0 f1 f2) (x : Int) : IsS48 w0 (W.setCell ⟨g, 2, none⟩ (.int .u64 x)) g f0 f1 x := by
  obtain ⟨A0, c0, hb, hg, hr0⟩ := h
  exact ⟨A0, c0, by simpa using blk_set hb 2 (.int .u64 x), hg, hr0⟩
def Zcp.f (s0_0 : List Int) (s0_1 : Int) (s0_2 : Int) : Option (Int × Int × Int) := if s0_1 < (s0_0.length : Int) then (if 0 ≤ s0_1 then (if (wrap64 (s0_1 + 1)) ≤ (s0_0.length : Int) then (some (wrap64 (rd s0_0 s0_1), wrap64 (s0_1 + 1), IntKind.u64.wrap ((IntKind.u64.wrap ((IntKind.u64.wrap (s0_2 * 6364136223846793005)) + (IntKind.u64.wrap (wrap64 (rd s0_0 s0_1))))) + 1442695040888963407))) else (some (wrap64 (Go.bits .and .u64 ((IntKind.u64.wrap ((IntKind.u64.wrap ((IntKind.u64.wrap (s0_2 * 6364136223846793005)) + (IntKind.u64.wrap (wrap64 (rd s0_0 s0_1))))) + 1442695040888963407)) / 1099511627776) 255), wrap64 (s0_1 + 1), IntKind.u64.wrap ((IntKind.u64.wrap ((IntKind.u64.wrap (s0_2 * 6364136223846793005)) + (IntKind.u64.wrap (wrap64 (rd s0_0 s0_1))))) + 1442695040888963407)))) else (none)) else (if (wrap64 (s0_1 + 1)) ≤ (s0_0.length : Int) then (some (0, wrap64 (s0_1 + 1), IntKind.u64.wrap ((IntKind.u64.wrap (IntKind.u64.wrap (s0_2 * 6364136223846793005))) + 1442695040888963407))) else (some (wrap64 (Go.bits .and .u64 ((IntKind.u64.wrap ((IntKind.u64.wrap (IntKind.u64.wrap (s0_2 * 6364136223846793005))) + 1442695040888963407)) / 1099511627776) 255), wrap64 (s0_1 + 1), IntKind.u64.wrap ((IntKind.u64.wrap (IntKind.u64.wrap (s0_2 * 6364136223846793005))) + 1442695040888963407))))
theorem Zcp.calls (g : Nat) (s0_0 : List Int) (s0_1 : Int) (s0_2 : Int) (r1 : Int) (r2 : Int) (r3 : Int) (w0 w : World) (hI : IsS48 w0 w g s0_0 s0_1 s0_2) (hB : Below w0.heap.size w0 w) (h : Zcp.f s0_0 s0_1 s0_2 = some (r1, r2, r3)) :
    Calls Try.prog 64 #[.pointer (some ⟨g, 0, none⟩)] w fun e w' => e = .returned (.int .i64 r1) ∧ IsS48 w0 w' g s0_0 r2 r3 ∧ Below w0.heap.size w0 w' ∧ KeepBut w w' g none := by
  have HI0 := Aside0.mk hI
  have HK := Aside0.mk (KeepBut.refl w g none)
  have HL := Aside0.mk hB.size
  clear hI
  have HW0 := Aside0.mk hB.size
  have HB := Aside0.mk hB
  clear hB
  have H : (if s0_1 < (s0_0.length : Int) then (if 0 ≤ s0_1 then (if (wrap64 (s0_1 + 1)) ≤ (s0_0.length : Int) then (some (wrap64 (rd s0_0 s0_1), wrap64 (s0_1 + 1), IntKind.u64.wrap ((IntKind.u64.wrap ((IntKind.u64.wrap (s0_2 * 6364136223846793005)) + (IntKind.u64.wrap (wrap64 (rd s0_0 s0_1))))) + 1442695040888963407))) else (some (wrap64 (Go.bits .and .u64 ((IntKind.u64.wrap ((IntKind.u64.wrap ((IntKind.u64.wrap (s0_2 * 6364136223846793005)) + (IntKind.u64.wrap (wrap64 (rd s0_0 s0_1))))) + 1442695040888963407)) / 1099511627776) 255), wrap64 (s0_1 + 1), IntKind.u64.wrap ((IntKind.u64.wrap ((IntKind.u64.wrap (s0_2 * 6364136223846793005)) + (IntKind.u64.wrap (wrap64 (rd s0_0 s0_1))))) + 1442695040888963407)))) else (none)) else (if (wrap64 (s0_1 + 1)) ≤ (s0_0.length : Int) then (some (0, wrap64 (s0_1 + 1), IntKind.u64.wrap ((IntKind.u64.wrap (IntKind.u64.wrap (s0_2 * 6364136223846793005))) + 1442695040888963407))) else (some (wrap64 (Go.bits .and .u64 ((IntKind.u64.wrap ((IntKind.u64.wrap (IntKind.u64.wrap (s0_2 * 6364136223846793005))) + 1442695040888963407)) / 1099511627776) 255), wrap64 (s0_1 + 1), IntKind.u64.wrap ((IntKind.u64.wrap (IntKind.u64.wrap (s0_2 * 6364136223846793005))) + 1442695040888963407))))) = some (r1, r2, r3) := h
  clear h
  by_cases c2 : s0_1 < (s0_0.length : Int)
  · rw [if_pos c2] at H
    have c2b0 := decide_eq_true c2
    clear c2
    obtain ⟨c3b0, H⟩ := in_ H
    by_cases c4 : (wrap64 (s0_1 + 1)) ≤ (s0_0.length : Int)
    · rw [if_pos c4] at H
      have c4b0 := decide_eq_true c4
      clear c4
      simp only [Option.some.injEq, Prod.mk.injEq] at H
      obtain ⟨rfl, rfl, rfl⟩ := H
      obtain ⟨ASz5_0, cSz5_0, HGz5, hgz5, HSz5_0⟩ := HI0.out
      have hcz5_0 := cellS48_0 HGz5
      have hcz5_1 := cellS48_1 HGz5
      have hcz5_2 := cellS48_2 HGz5
      have hfz5_1 := blk_frozen HGz5 1
      have hfz5_2 := blk_frozen HGz5 2
      clear HGz5 hgz5
      have p101 : 0 ≤ (s0_1 : Int) := of_decide_eq_true (by first | (with_reducible assumption) | assumption)
      have q101 : s0_1 < (s0_0.length : Int) := of_decide_eq_true (by first | (with_reducible assumption) | assumption)
      obtain ⟨ad101, e101, hx101_0⟩ := Kd.at_int HSz5_0 s0_1 p101 q101
      cases e101
      replace hx101_0 := pw_cell_below HB.out hx101_0
      replace p101 := eq_true p101
      replace q101 := eq_true q101
      go_enter Try.func64, Try.ntmps64
      go_wp2
      repeat (go_quiet (fail); try go_wp2)
      go_ret
      exact ⟨by first | rfl | (simp [errW_none, errW_some] <;> rfl) | (simp [*, errW_none, errW_some] <;> rfl), by repeat (first | (with_reducible first | exact HI0.out | apply IsS48.alloc | apply IsS48.drewN | apply IsS48.drew | apply IsS48.set_1 | apply IsS48.set_2) | exact HI0.out), by repeat (first | (with_reducible first | exact HB.out | apply below_alloc | apply pw_below_drewN | apply below_drew1 | refine below_set ?_ (IsS48.ge HI0.out)) | exact HB.out), by repeat (first | (with_reducible first | exact HK.out | apply KeepBut.set_ | apply keep_drewN | apply keep_drew | apply keep_alloc) | exact HK.out)⟩
    · rw [if_neg c4] at H
      have c4b0 := decide_eq_false c4
      clear c4
      simp only [Option.some.injEq, Prod.mk.injEq] at H
      obtain ⟨rfl, rfl, rfl⟩ := H
      obtain ⟨ASz6_0, cSz6_0, HGz6, hgz6, HSz6_0⟩ := HI0.out
      have hcz6_0 := cellS48_0 HGz6
      have hcz6_1 := cellS48_1 HGz6
      have hcz6_2 := cellS48_2 HGz6
      have hfz6_1 := blk_frozen HGz6 1
      have hfz6_2 := blk_frozen HGz6 2
      clear HGz6 hgz6
      have p101 : 0 ≤ (s0_1 : Int) := of_decide_eq_true (by first | (with_reducible assumption) | assumption)
      have q101 : s0_1 < (s0_0.length : Int) := of_decide_eq_true (by first | (with_reducible assumption) | assumption)
      obtain ⟨ad101, e101, hx101_0⟩ := Kd.at_int HSz6_0 s0_1 p101 q101
      cases e101
      replace hx101_0 := pw_cell_below HB.out hx101_0
      replace p101 := eq_true p101
      replace q101 := eq_true q101
      go_enter Try.func64, Try.ntmps64
      go_wp2
      repeat (go_quiet (fail); try go_wp2)
      go_ret
      exact ⟨by first | rfl | (simp [errW_none, errW_some] <;> rfl) | (simp [*, errW_none, errW_some] <;> rfl), by repeat (first | (with_reducible first | exact HI0.out | apply IsS48.alloc | apply IsS48.drewN | apply IsS48.drew | apply IsS48.set_1 | apply IsS48.set_2) | exact HI0.out), by repeat (first | (with_reducible first | exact HB.out | apply below_alloc | apply pw_below_drewN | apply below_drew1 | refine below_set ?_ (IsS48.ge HI0.out)) | exact HB.out), by repeat (first | (with_reducible first | exact HK.out | apply KeepBut.set_ | apply keep_drewN | apply keep_drew | apply keep_alloc) | exact HK.out)⟩
  · rw [if_neg c2] at H
    have c2b0 := decide_eq_false c2
    clear c2
    by_cases c7 : (wrap64 (s0_1 + 1)) ≤ (s0_0.length : Int)
    · rw [if_pos c7] at H
      have c7b0 := decide_eq_true c7
      clear c7
      simp only [Option.some.injEq, Prod.mk.injEq] at H
      obtain ⟨rfl, rfl, rfl⟩ := H
      obtain ⟨ASz8_0, cSz8_0, HGz8, hgz8, HSz8_0⟩ := HI0.out
      have hcz8_0 := cellS48_0 HGz8
      have hcz8_1 := cellS48_1 HGz8
      have hcz8_2 := cellS48_2 HGz8
      have hfz8_1 := blk_frozen HGz8 1
      have hfz8_2 := blk_frozen HGz8 2
      clear HGz8 hgz8
      go_enter Try.func64, Try.ntmps64
      go_wp2
      repeat (go_quiet (fail); try go_wp2)
      go_ret
      exact ⟨by first | rfl | (simp [errW_none, errW_some] <;> rfl) | (simp [*, errW_none, errW_some] <;> rfl), by repeat (first | (with_reducible first | exact HI0.out | apply IsS48.alloc | apply IsS48.drewN | apply IsS48.drew | apply IsS48.set_1 | apply IsS48.set_2) | exact HI0.out), by repeat (first | (with_reducible first | exact HB.out | apply below_alloc | apply pw_below_drewN | apply below_drew1 | refine below_set ?_ (IsS48.ge HI0.out)) | exact HB.out), by repeat (first | (with_reducible first | exact HK.out | apply KeepBut.set_ | apply keep_drewN | apply keep_drew | apply keep_alloc) | exact HK.out)⟩
    · rw [if_neg c7] at H
      have c7b0 := decide_eq_false c7
      clear c7
      simp only [Option.some.injEq, Prod.mk.injEq] at H
      obtain ⟨rfl, rfl, rfl⟩ := H
      obtain ⟨ASz9_0, cSz9_0, HGz9, hgz9, HSz9_0⟩ := HI0.out
      have hcz9_0 := cellS48_0 HGz9
      have hcz9_1 := cellS48_1 HGz9
      have hcz9_2 := cellS48_2 HGz9
      have hfz9_1 := blk_frozen HGz9 1
      have hfz9_2 := blk_frozen HGz9 2
      clear HGz9 hgz9
      go_enter Try.func64, Try.ntmps64
      go_wp2
      repeat (go_quiet (fail); try go_wp2)
      go_ret
      exact ⟨by first | rfl | (simp [errW_none, errW_some] <;> rfl) | (simp [*, errW_none, errW_some] <;> rfl), by repeat (first | (with_reducible first | exact HI0.out | apply IsS48.alloc | apply IsS48.drewN | apply IsS48.drew | apply IsS48.set_1 | apply IsS48.set_2) | exact HI0.out), by repeat (first | (with_reducible first | exact HB.out | apply below_alloc | apply pw_below_drewN | apply below_drew1 | refine below_set ?_ (IsS48.ge HI0.out)) | exact HB.out), by repeat (first | (with_reducible first | exact HK.out | apply KeepBut.set_ | apply keep_drewN | apply keep_drew | apply keep_alloc) | exact HK.out)⟩
def Zac.f (s0_0 : List Int) (s0_1 : Int) (s0_2 : Int) (a1 : Int) : Option (Int × Int × Int) := if a1 ≤ 1 then (some (0, s0_1, s0_2)) else ((Zcp.f s0_0 s0_1 s0_2).bind fun bt102 => (if a1 > 200 then ((Zcp.f s0_0 bt102.2.1 bt102.2.2).bind fun bt105 => (if a1 = 0 then (none) else (some (Int.tmod (wrap64 ((wrap64 (bt102.1 * 256)) + bt105.1)) a1, bt105.2.1, bt105.2.2)))) else (if a1 = 0 then (none) else (some (Int.tmod bt102.1 a1, bt102.2.1, bt102.2.2)))))
theorem Zac.calls (g : Nat) (s0_0 : List Int) (s0_1 : Int) (s0_2 : Int) (a1 : Int) (r1 : Int) (r2 : Int) (r3 : Int) (w0 w : World) (hI : IsS48 w0 w g s0_0 s0_1 s0_2) (hB : Below w0.heap.size w0 w) (h : Zac.f s0_0 s0_1 s0_2 a1 = some (r1, r2, r3)) :
  Calls Try.prog 42 #[.pointer (some ⟨g, 0, none⟩), .int .i64 a1] w fun e w' => e = .returned (.int .i64 r1) ∧ IsS48 w0 w' g s0_0 r2 r3 ∧ Below w0.heap.size w0 w' ∧ KeepBut w w' g none := by
 have HI0 := Aside0.mk hI
 have HK := Aside0.mk (KeepBut.refl w g none)
 have HL := Aside0.mk hB.size
 clear hI
 have HW0 := Aside0.mk hB.size
 have HB := Aside0.mk hB
 clear hB
 have H := h
 unfold Zac.f at H
 clear h
 by_cases c3 : a1 ≤ 1
 ·rw [if_pos c3] at H
  have c3b0 := decide_eq_true c3
  clear c3
  simp only [Option.some.injEq, Prod.mk.injEq] at H
  obtain ⟨rfl, rfl, rfl⟩ := H
  go_enter Try.func42, Try.ntmps42
  go_wp2
  go_ret
  exact ⟨eqr, IsS48.at HI0, atB HB, atK HK⟩
 rw [if_neg c3] at H
 have c3b0 := decide_eq_false c3
 clear c3
 replace H := Option.bind_eq_some_iff.mp H
 obtain ⟨⟨t102, t103, t104⟩, A40, H⟩ := H
 replace H : (if a1 > 200 then ((Zcp.f s0_0 t103 t104).bind fun bt105 => (if a1 = 0 then (none) else (some (Int.tmod (wrap64 ((wrap64 (t102 * 256)) + bt105.1)) a1, bt105.2.1, bt105.2.2)))) else (if a1 = 0 then (none) else (some (Int.tmod t102 a1, t103, t104)))) = some (r1, r2, r3) := H
 have A4 := Aside0.mk A40
 clear A40
 by_cases c5 : a1 > 200
 ·rw [if_pos c5] at H
  have c5b0 := decide_eq_true c5
  clear c5
  replace H := Option.bind_eq_some_iff.mp H
  obtain ⟨⟨t105, t106, t107⟩, A60, H⟩ := H
  replace H : (if a1 = 0 then (none) else (some (Int.tmod (wrap64 ((wrap64 (t102 * 256)) + t105)) a1, t106, t107))) = some (r1, r2, r3) := H
  have A6 := Aside0.mk A60
  clear A60
  by_cases c7 : a1 = 0
  ·rw [if_pos c7] at H
   exact absurd H (by simp)
  rw [if_neg c7] at H
  have c7b0 : (a1 == 0) = false := beq_eq_false_iff_ne.mpr c7
  have c7b1 : (a1 != 0) = true := bne_iff_ne.mpr c7
  simp only [Option.some.injEq, Prod.mk.injEq] at H
  obtain ⟨rfl, rfl, rfl⟩ := H
  go_enter Try.func42, Try.ntmps42
  go_wp2_with (first | ((with_reducible refine gate_callee (f := 64) rfl ?_); refine goesA (some 9) Try.func64 #[.pointer (some ⟨g, 0, none⟩)] ?_; (with_reducible refine (Zcp.calls g s0_0 s0_1 s0_2 t102 t103 t104 w0 _ ?side1 ?side2 A4.out).mono ?_); (case side1 => exact IsS48.at HI0); (case side2 => exact atB HB); rintro e w8 ⟨rfl, hi, hb, hk⟩; refine ⟨_, rfl, ?_⟩; replace HK := upK HK hk; replace HB := Aside0.mk (hb); replace HI0 := Aside0.mk (hi)) | ((with_reducible refine gate_callee (f := 64) rfl ?_); refine goesA (some 15) Try.func64 #[.pointer (some ⟨g, 0, none⟩)] ?_; (with_reducible refine (Zcp.calls g s0_0 t103 t104 t105 t106 t107 w0 _ ?side1 ?side2 A6.out).mono ?_); (case side1 => exact IsS48.at HI0); (case side2 => exact atB HB); rintro e w9 ⟨rfl, hi, hb, hk⟩; refine ⟨_, rfl, ?_⟩; replace HK := upK HK hk; replace HB := Aside0.mk (hb); replace HI0 := Aside0.mk (hi)))
  go_ret
  exact ⟨eqr, IsS48.at HI0, atB HB, atK HK⟩
 ·rw [if_neg c5] at H
  have c5b0 := decide_eq_false c5
  clear c5
  by_cases c10 : a1 = 0
  ·rw [if_pos c10] at H
   exact absurd H (by simp)
  rw [if_neg c10] at H
  have c10b0 : (a1 == 0) = false := beq_eq_false_iff_ne.mpr c10
  have c10b1 : (a1 != 0) = true := bne_iff_ne.mpr c10
  simp only [Option.some.injEq, Prod.mk.injEq] at H
  obtain ⟨rfl, rfl, rfl⟩ := H
  go_enter Try.func42, Try.ntmps42
  go_wp2_with (first | ((with_reducible refine gate_callee (f := 64) rfl ?_); refine goesA (some 9) Try.func64 #[.pointer (some ⟨g, 0, none⟩)] ?_; (with_reducible refine (Zcp.calls g s0_0 s0_1 s0_2 t102 t103 t104 w0 _ ?side1 ?side2 A4.out).mono ?_); (case side1 => exact IsS48.at HI0); (case side2 => exact atB HB); rintro e w11 ⟨rfl, hi, hb, hk⟩; refine ⟨_, rfl, ?_⟩; replace HK := upK HK hk; replace HB := Aside0.mk (hb); replace HI0 := Aside0.mk (hi)))
  go_ret
  exact ⟨eqr, IsS48.at HI0, atB HB, atK HK⟩
mutual
def Zbk.j0 : Nat → List Int → Bool → Option (Bool)
 | 0, _, _ => none
 | k + 1, x0, x13 => if x13 = true then (some false) else (Zbk.l0 k (x0.length : Int) x0 (x0.length : Int) 0)
def Zbk.l0 : Nat → Int → List Int → Int → Int → Option (Bool)
 | 0, _, _, _, _ => none
 | k + 1, x3, x16, x17, x18 => if x18 < x17 then (if 0 ≤ x18 then (if x18 < (x16.length : Int) then (if (rd x16 x18) < 0 then (some false) else (if (rd x16 x18) > 5 then (some false) else (Zbk.l0 k (wrap64 (x3 + (rd x16 x18))) x16 x17 (wrap64 (x18 + 1))))) else (none)) else (none)) else (some (decide (x3 ≤ 9)))
end
def Zbk.f (k : Nat) (l0 : List Int) : Option (Bool) := if (l0.length : Int) < 1 then (Zbk.j0 k l0 true) else (Zbk.j0 k l0 (decide ((l0.length : Int) > 5)))
theorem Zbk.mono_l : ∀ k, (∀ y0 y1, LeO (Zbk.j0 k y0 y1) (Zbk.j0 (k + 1) y0 y1)) ∧ (∀ y0 y1 y2 y3, LeO (Zbk.l0 k y0 y1 y2 y3) (Zbk.l0 (k + 1) y0 y1 y2 y3))
 | 0 => ⟨fun _ _ r h => by simp [Zbk.j0] at h, fun _ _ _ _ r h => by simp [Zbk.l0] at h⟩
 | k + 1 => by
  obtain ⟨ih0, ih1⟩ := Zbk.mono_l k
  refine ⟨?_, ?_⟩
  ·intro y0 y1
   unfold Zbk.j0
   repeat' (first | (with_reducible first | exact ih1 _ _ _ _ | exact LeO.refl _ | exact LeO.none _ | refine LeO.ite ?_ ?_ | refine LeO.bind ?_ (fun _ => ?_)) | exact ih1 _ _ _ _ | exact LeO.none _ | refine LeO.ite ?_ ?_ | refine LeO.bind ?_ (fun _ => ?_))
  ·intro y0 y1 y2 y3
   unfold Zbk.l0
   repeat' (first | (with_reducible first | exact ih1 _ _ _ _ | exact LeO.refl _ | exact LeO.none _ | refine LeO.ite ?_ ?_ | refine LeO.bind ?_ (fun _ => ?_)) | exact ih1 _ _ _ _ | exact LeO.none _ | refine LeO.ite ?_ ?_ | refine LeO.bind ?_ (fun _ => ?_))
theorem Zbk.mono : ∀ a0 k, LeO (Zbk.f k a0) (Zbk.f (k + 1) a0) := by
 intro a0 k
 obtain ⟨ih0, ih1⟩ := Zbk.mono_l k
 unfold Zbk.f
 repeat' (first | (with_reducible first | exact ih0 _ _ | exact LeO.refl _ | exact LeO.none _ | refine LeO.ite ?_ ?_ | refine LeO.bind ?_ (fun _ => ?_)) | exact ih0 _ _ | exact LeO.none _ | refine LeO.ite ?_ ?_ | refine LeO.bind ?_ (fun _ => ?_))
theorem Zbk.calls (k : Nat) (A0 : Option Addr) (c0 : Nat) (l0 : List Int) (r : Bool) (w : World) (hr0 : Kd.C (Kd.int .i64) w A0 l0.length l0) (hc0 : l0.length ≤ c0) (h : Zbk.f k l0 = some r) :
  Calls Try.prog 35 #[.slice A0 l0.length c0] w fun e w' => e = .returned (.bool r) ∧ Drawn0 w w' := by
 have HR0 := Aside0.mk hr0
 have HC0 := Aside0.mk hc0
 clear hr0 hc0
 have H := h
 unfold Zbk.f at H
 clear h
 have HC2 := Aside0.mk H
 clear H
 go_enter Try.func35, Try.ntmps35
 go_upto_region 1 with (fail)
 go_cut [13] (fun v13 wc => ∃ (kq : Nat) (x13_1 : Bool), v13 = .bool x13_1 ∧ Aside0 (Zbk.j0 kq l0 x13_1 = some r) ∧ Aside0 (kq ≤ k) ∧ Drawn0 w wc)
 case first =>
  have H := HC2.out
  clear HC2
  by_cases c3 : (l0.length : Int) < 1
  rotate_left
  ·rw [if_neg c3] at H
   have c3b0 := decide_eq_false c3
   have c3b1 : decide (l0.length < 1) = false := decide_eq_false (by omega)
   clear c3
   (first | rw [c3b0] | (simp only [i64_w, i32_w]; rw [c3b0]) | skip)
   have H' := Aside0.mk H
   clear H
   go_wp2
   go_meet
   case rel => exact ⟨_, (decide ((l0.length : Int) > 5)), eqd, H', ⟨leD⟩, by repeat (first | exact Drawn0.refl _ | apply Drawn0.step)⟩
  rw [if_pos c3] at H
  have c3b0 := decide_eq_true c3
  have c3b1 : decide (l0.length < 1) = true := decide_eq_true (by omega)
  clear c3
  (first | rw [c3b0] | (simp only [i64_w, i32_w]; rw [c3b0]) | skip)
  have H' := Aside0.mk H
  clear H
  go_wp2
  go_meet
  case rel => exact ⟨_, (true), eqd, H', ⟨leD⟩, by repeat (first | exact Drawn0.refl _ | apply Drawn0.step)⟩
 case rest =>
  clear HC2
  obtain ⟨kq, x13_1, rfl, HA, HJ1, ⟨mc1, rfl⟩⟩ := hcut
  cases kq with
  | zero => exact absurd HA.out (by simp [Zbk.j0])
  | succ kj1 =>
   have H := HA.out
   clear HA
   simp only [Zbk.j0] at H
   by_cases c4 : x13_1 = true
   ·subst c4
    replace H := it_ H
    obtain rfl := Option.some.inj H
    go_wp2
    go_ret
    exact ⟨by first | rfl | (simp; done) | (simp [*]; done), by repeat (first | exact Drawn0.refl _ | apply Drawn0.step)⟩
   replace c4 := Bool.eq_false_iff.mpr c4
   subst c4
   replace H := if_ H
   have H' := Aside0.mk H
   clear H
   go_wp2
   go_loopg [3, 18] kj1 (fun kq v3 v18 w' => ∃ (x3_2 : Int) (x18_2 : Int), v3 = .int .i64 x3_2 ∧ v18 = .int .i64 x18_2 ∧ Aside0 (Zbk.l0 kq x3_2 l0 (l0.length : Int) x18_2 = some r) ∧ Aside0 (kq ≤ kj1) ∧ Drawn0 w w')
   case atStart => exact ⟨((l0.length : Int)), (0), eqd, eqd, H', ⟨Nat.le_refl _⟩, by repeat (first | exact Drawn0.refl _ | apply Drawn0.step)⟩
   case round =>
    clear H'
    try clear c4
    obtain ⟨x3_2, x18_2, rfl, rfl, HA, HK2, ⟨m2, rfl⟩⟩ := hrel
    cases gk with
    | zero => exact absurd HA.out (by simp [Zbk.l0])
    | succ k2 =>
     have H := HA.out
     clear HA
     simp only [Zbk.l0] at H
     by_cases c5 : x18_2 < (l0.length : Int)
     rotate_left
     ·rw [if_neg c5] at H
      have c5b0 := decide_eq_false c5
      clear c5
      obtain rfl := Option.some.inj H
      go_wp2
      go_ret
      exact ⟨by first | rfl | (simp; done) | (simp [*]; done), by repeat (first | exact Drawn0.refl _ | apply Drawn0.step)⟩
     rw [if_pos c5] at H
     have c5b0 := decide_eq_true c5
     clear c5
     obtain ⟨c6b0, H⟩ := in_ H
     obtain ⟨c7b0, H⟩ := in_ H
     by_cases c8 : (rd l0 x18_2) < 0
     ·rw [if_pos c8] at H
      have c8b0 := decide_eq_true c8
      clear c8
      obtain rfl := Option.some.inj H
      have p140 : 0 ≤ (x18_2 : Int) := ofd
      have q140 : x18_2 < (l0.length : Int) := ofd
      obtain ⟨ad140, e140, hx140_0⟩ := Kd.at_int HR0.out x18_2 p140 q140
      cases e140
      replace p140 := eq_true p140
      replace q140 := eq_true q140
      go_wp2
      go_ret
      exact ⟨by first | rfl | (simp; done) | (simp [*]; done), by repeat (first | exact Drawn0.refl _ | apply Drawn0.step)⟩
     ·rw [if_neg c8] at H
      have c8b0 := decide_eq_false c8
      clear c8
      by_cases c9 : (rd l0 x18_2) > 5
      ·rw [if_pos c9] at H
       have c9b0 := decide_eq_true c9
       clear c9
       obtain rfl := Option.some.inj H
       have p140 : 0 ≤ (x18_2 : Int) := ofd
       have q140 : x18_2 < (l0.length : Int) := ofd
       obtain ⟨ad140, e140, hx140_0⟩ := Kd.at_int HR0.out x18_2 p140 q140
       cases e140
       replace p140 := eq_true p140
       replace q140 := eq_true q140
       go_wp2
       go_ret
       exact ⟨by first | rfl | (simp; done) | (simp [*]; done), by repeat (first | exact Drawn0.refl _ | apply Drawn0.step)⟩
      ·rw [if_neg c9] at H
       have c9b0 := decide_eq_false c9
       clear c9
       have H' := Aside0.mk H
       clear H
       have p140 : 0 ≤ (x18_2 : Int) := ofd
       have q140 : x18_2 < (l0.length : Int) := ofd
       obtain ⟨ad140, e140, hx140_0⟩ := Kd.at_int HR0.out x18_2 p140 q140
       cases e140
       replace p140 := eq_true p140
       replace q140 := eq_true q140
       go_wp2
       go_roundg k2
       case measure => have := HJ1.out; have := HK2.out; omega
       case rel => exact ⟨(wrap64 (x3_2 + (rd l0 x18_2))), (wrap64 (x18_2 + 1)), eqd, eqd, H', ⟨by have := HJ1.out; have := HK2.out; omega⟩, by repeat (first | exact Drawn0.refl _ | apply Drawn0.step)⟩
noncomputable def Zbk.F (l0 : List Int) : Option (Bool) := lim fun k => Zbk.f k l0
theorem Zbk.F_lim (l0 : List Int) : Lim (fun k => Zbk.f k l0) (Zbk.F l0) := Lim.of fun k => Zbk.mono l0 k
abbrev CombSt := List Int × Int × Int
def combTake (b : Bool) (s : CombSt) : CombSt := if b = true then (s.1 ++ [s.2.1], wrap64 (s.2.1 + 1), s.2.2) else (s.1 ++ [s.2.2], s.2.1, wrap64 (s.2.2 - 1))
def combTakes (b : Bool) (s : CombSt) : Nat → CombSt
 | 0 => s
 | j + 1 => combTake b (combTakes b s j)
def combSum (l : List Int) : Nat → Int
 | 0 => (l.length : Int)
 | i + 1 => wrap64 (combSum l i + rd l (i : Int))
def combAt (l : List Int) : Nat → CombSt
 | 0 => ([], 0, wrap64 (combSum l l.length - 1))
 | i + 1 => combTakes ((i : Int).tmod 2 == 1) (combTake ((i : Int).tmod 2 == 0) (combAt l i)) (rd l (i : Int)).toNat
theorem combTake_len (b : Bool) (s : CombSt) : (combTake b s).1.length = s.1.length + 1 := by
 unfold combTake
 split <;> simp
theorem combTakes_len (b : Bool) (s : CombSt) : ∀ j, (combTakes b s j).1.length = s.1.length + j
 | 0 => rfl
 | j + 1 => by
  show (combTake b (combTakes b s j)).1.length = _
  rw [combTake_len, combTakes_len b s j]
  omega
theorem combAt_len (l : List Int) (h : ∀ x ∈ l, 0 ≤ x ∧ x ≤ 5) : ∀ i, i ≤ l.length → (combAt l i).1.length ≤ 6 * i
 | 0, _ => Nat.le_refl _
 | i + 1, hi => by
  have h1 := combAt_len l h i (by omega)
  have h2 : rd l (i : Int) ≤ 5 := by rw [rd_nat l i (by omega)]; exact (h _ (List.getElem_mem _)).2
  show (combTakes _ _ _).1.length ≤ _
  rw [combTakes_len, combTake_len]
  omega
def Zcg.f (k : Nat) (l0 : List Int) : Option (List Int × Bool) :=
 (Zbk.f k l0).bind fun t => if t = true then (if l0.length ≤ 5 ∧ ∀ x ∈ l0, 0 ≤ x ∧ x ≤ 5 then some ((combAt l0 l0.length).1, true) else none) else some ([], false)
theorem Zcg.mono : ∀ l0 k, LeO (Zcg.f k l0) (Zcg.f (k + 1) l0) := fun l0 k => LeO.bind (Zbk.mono _ _) (fun _ => LeO.refl _)
noncomputable def Zcg.F (l0 : List Int) : Option (List Int × Bool) :=
 (Zbk.F l0).bind fun t => if t = true then (if l0.length ≤ 5 ∧ ∀ x ∈ l0, 0 ≤ x ∧ x ≤ 5 then some ((combAt l0 l0.length).1, true) else none) else some ([], false)
theorem Zcg.F_lim {l0 : List Int} : Lim (fun k => Zcg.f k l0) (Zcg.F l0) := Lim.bind (Zbk.F_lim l0) (fun _ => Lim.const _)
structure CombI (base b7 b8 b9 : Nat) (s : CombSt) (w : World) : Prop where
 out : ∃ v, w.heap[b7]? = some (.cells #[v] 24 (0, 0)) ∧ Kd.R (Kd.int .i64) 3 w base (fun k => ¬ k = b8 ∧ ¬ k = b9) v s.1
 low : w.heap[b8]? = some (.cells #[.int .i64 s.2.1] 3 (0, 0))
 high : w.heap[b9]? = some (.cells #[.int .i64 s.2.2] 3 (0, 0))
theorem cells_ne {w : World} {a b t u : Nat} {cs ds : Array Value} (h : w.heap[a]? = some (.cells cs t (0, 0))) (h2 : w.heap[b]? = some (.cells ds u (0, 0))) (ht : t ≠ u) : a ≠ b := fun e => by
 subst e
 rw [h] at h2
 injection h2 with h2
 injection h2 with _ h2
 exact ht h2
theorem CombI.below {base b7 b8 b9 : Nat} {s : CombSt} {w w' : World} (h : CombI base b7 b8 b9 s w) (hb : Below w.heap.size w w') : CombI base b7 b8 b9 s w' := by
 obtain ⟨⟨v, h1, h2⟩, h3, h4⟩ := h
 exact ⟨⟨v, blk_below h1 hb, Kd.R_below h2 hb⟩, blk_below h3 hb, blk_below h4 hb⟩
theorem combTake_call {base b7 b8 b9 : Nat} (h89 : b8 ≠ b9) (hb7 : base ≤ b7) (hb8 : base ≤ b8) (hb9 : base ≤ b9) (b : Bool) (s : CombSt) (w : World) (hI : CombI base b7 b8 b9 s w) (hl : s.1.length ≤ 1000) :
  Calls Try.prog 36 #[.bool b, .pointer (some ⟨b7, 0, none⟩), .pointer (some ⟨b8, 0, none⟩), .pointer (some ⟨b9, 0, none⟩)] w fun e w' => e = .returned (.tuple #[]) ∧ CombI base b7 b8 b9 (combTake b s) w' ∧ Below base w w' := by
 obtain ⟨xs, low, high⟩ := s
 obtain ⟨⟨v, h1, h2⟩, h3, h4⟩ := hI
 obtain ⟨A3, c3, e3⟩ := Kd.R_slice h2
 subst e3
 have H7 := Aside0.mk h1
 have HR := Aside0.mk h2
 have H8 := Aside0.mk h3
 have H9 := Aside0.mk h4
 have HB7 := Aside0.mk hb7
 have HB8 := Aside0.mk hb8
 have HB9 := Aside0.mk hb9
 have HNE := Aside0.mk h89
 have HL := Aside0.mk (show xs.length ≤ 1000 from hl)
 clear h1 h2 h3 h4 hb7 hb8 hb9 hl h89
 have hc7 := cell_of_one H7.out
 have hf7 := free_of_one H7.out
 cases b with
 | true =>
  obtain ⟨nx, hnx⟩ : ∃ nx, xs ++ [low] = nx := ⟨_, rfl⟩
  have HNX := Aside0.mk hnx
  rw [show combTake true (xs, low, high) = (nx, wrap64 (low + 1), high) by rw [← hnx]; rfl]
  clear hnx
  have hcq := cell_of_one H8.out
  have hfq := free_of_one H8.out
  go_enter Try.func36, Try.ntmps36
  go_wp2_with (first | ((with_reducible refine gate_builtin (b := .append) (xs := #[.tmp 6, .tmp 8]) rfl ?_); at_builtin; refine Kd.R_append (Kd.int .i64) (w0 := w) base rfl (.tmp 6) (.tmp 8) 24 3 (.int .i64 0) 8 rfl Try.underlying24 info3 rfl (by decide) (by omega) (.slice A3 xs.length c3) xs low [.int .i64 low] (fun k => ¬ k = b8 ∧ ¬ k = b9) (fun _ => False) rfl rfl ?aP (fun _ hk => hk.elim) ?aF ?aO ?aB ?aS ?aL ?_; (case aP => exact rfl); (case aF => exact fun k hk => by have h1 := lt_of_cells H8.out; have h2 := lt_of_cells H9.out; omega); (case aO => exact HR.out); (case aB => exact Below.refl _ _); (case aS => have h1 := lt_of_cells H8.out; have h2 := HB8.out; omega); (case aL => have := HL.out; omega); intro v5 w5 ho5 hb5 hg5 hat5; rw [HNX.out] at ho5; obtain ⟨A5, c5, e5⟩ := Kd.R_slice ho5; subst e5; have HR5 := Aside0.mk ho5; have HB5 := Aside0.mk hb5; have K7 := Aside0.mk (blk_grown H7.out hg5 (Kd.R_ne HR.out H7.out (by decide))); have K8 := Aside0.mk (blk_grown H8.out hg5 (Kd.R_away HR.out (fun k hk => hk.1))); have K9 := Aside0.mk (blk_grown H9.out hg5 (Kd.R_away HR.out (fun k hk => hk.2))); clear hc7 hf7 hcq hfq ho5 hb5 hg5 hat5; have hc7 := cell_of_one K7.out; have hf7 := free_of_one K7.out; have NQ := Aside0.mk ((Below.heap_setCell w5 ⟨b7, 0, none⟩ (.slice A5 nx.length c5) b8 (fun e => cells_ne K8.out K7.out (by decide) e)).trans K8.out); have hcq := cell_of_one NQ.out; have hfq := free_of_one NQ.out))
  first | go_end0 | ((try simp only [Exit.inBlock, Exit.then]); refine bodyPost_ret (results_none rfl _ _ _) rfl ?_)
  have n87 := cells_ne K8.out K7.out (by decide)
  have n97 := cells_ne K9.out K7.out (by decide)
  refine ⟨rfl, ⟨⟨_, (Below.heap_setCell _ _ _ b7 (fun e => n87 e.symm)).trans (one_setCell K7.out), Kd.R_far (Kd.R_set HR5.out K7.out (by decide) 0 _) (fun k hk => hk.1) _⟩, one_setCell NQ.out, (Below.heap_setCell _ _ _ b9 (fun e => HNE.out e.symm)).trans ((Below.heap_setCell _ _ _ b9 (fun e => n97 e)).trans K9.out)⟩, (HB5.out.setCell (show base ≤ (⟨b7, 0, none⟩ : Addr).block from HB7.out) _).setCell (show base ≤ (⟨b8, 0, none⟩ : Addr).block from HB8.out) _⟩
 | false =>
  obtain ⟨nx, hnx⟩ : ∃ nx, xs ++ [high] = nx := ⟨_, rfl⟩
  have HNX := Aside0.mk hnx
  rw [show combTake false (xs, low, high) = (nx, low, wrap64 (high - 1)) by rw [← hnx]; rfl]
  clear hnx
  have hcq := cell_of_one H9.out
  have hfq := free_of_one H9.out
  go_enter Try.func36, Try.ntmps36
  go_wp2_with (first | ((with_reducible refine gate_builtin (b := .append) (xs := #[.tmp 12, .tmp 14]) rfl ?_); at_builtin; refine Kd.R_append (Kd.int .i64) (w0 := w) base rfl (.tmp 12) (.tmp 14) 24 3 (.int .i64 0) 8 rfl Try.underlying24 info3 rfl (by decide) (by omega) (.slice A3 xs.length c3) xs high [.int .i64 high] (fun k => ¬ k = b8 ∧ ¬ k = b9) (fun _ => False) rfl rfl ?aP (fun _ hk => hk.elim) ?aF ?aO ?aB ?aS ?aL ?_; (case aP => exact rfl); (case aF => exact fun k hk => by have h1 := lt_of_cells H8.out; have h2 := lt_of_cells H9.out; omega); (case aO => exact HR.out); (case aB => exact Below.refl _ _); (case aS => have h1 := lt_of_cells H8.out; have h2 := HB8.out; omega); (case aL => have := HL.out; omega); intro v5 w5 ho5 hb5 hg5 hat5; rw [HNX.out] at ho5; obtain ⟨A5, c5, e5⟩ := Kd.R_slice ho5; subst e5; have HR5 := Aside0.mk ho5; have HB5 := Aside0.mk hb5; have K7 := Aside0.mk (blk_grown H7.out hg5 (Kd.R_ne HR.out H7.out (by decide))); have K8 := Aside0.mk (blk_grown H8.out hg5 (Kd.R_away HR.out (fun k hk => hk.1))); have K9 := Aside0.mk (blk_grown H9.out hg5 (Kd.R_away HR.out (fun k hk => hk.2))); clear hc7 hf7 hcq hfq ho5 hb5 hg5 hat5; have hc7 := cell_of_one K7.out; have hf7 := free_of_one K7.out; have NQ := Aside0.mk ((Below.heap_setCell w5 ⟨b7, 0, none⟩ (.slice A5 nx.length c5) b9 (fun e => cells_ne K9.out K7.out (by decide) e)).trans K9.out); have hcq := cell_of_one NQ.out; have hfq := free_of_one NQ.out))
  first | go_end0 | ((try simp only [Exit.inBlock, Exit.then]); refine bodyPost_ret (results_none rfl _ _ _) rfl ?_)
  have n87 := cells_ne K8.out K7.out (by decide)
  have n97 := cells_ne K9.out K7.out (by decide)
  refine ⟨rfl, ⟨⟨_, (Below.heap_setCell _ _ _ b7 (fun e => n97 e.symm)).trans (one_setCell K7.out), Kd.R_far (Kd.R_set HR5.out K7.out (by decide) 0 _) (fun k hk => hk.2) _⟩, (Below.heap_setCell _ _ _ b8 (fun e => HNE.out e)).trans ((Below.heap_setCell _ _ _ b8 (fun e => n87 e)).trans K8.out), one_setCell NQ.out⟩, (HB5.out.setCell (show base ≤ (⟨b7, 0, none⟩ : Addr).block from HB7.out) _).setCell (show base ≤ (⟨b9, 0, none⟩ : Addr).block from HB9.out) _⟩
theorem Zcg.calls (k : Nat) (A0 : Option Addr) (c0 : Nat) (l0 : List Int) (r1 : List Int) (r2 : Bool) (w : World) (hr0 : Kd.C (Kd.int .i64) w A0 l0.length l0) (hc0 : l0.length ≤ c0) (h : Zcg.f k l0 = some (r1, r2)) :
  Calls Try.prog 6 #[.slice A0 l0.length c0] w fun e w' => ∃ v0_ : Value, e = .returned (.tuple #[v0_, .bool r2]) ∧ Kd.R (Kd.int .i64) 3 w' w.heap.size (fun _ => True) v0_ r1 ∧ Below w.heap.size w w' := by
 have HR0 := Aside0.mk hr0
 have HC0 := Aside0.mk hc0
 unfold Zcg.f at h
 obtain ⟨t, ht, h⟩ := Option.bind_eq_some_iff.1 h
 have HT := Aside0.mk ht
 clear hr0 hc0 ht
 cases t with
 | false =>
  obtain ⟨rfl, rfl⟩ := Prod.mk.inj (Option.some.inj (show some (([] : List Int), false) = some (r1, r2) from h))
  clear h
  go_enter Try.func6, Try.ntmps6
  go_wp2_with (first | ((with_reducible refine gate_callee (f := 35) rfl ?_); refine goesA (some 14) Try.func35 #[.slice A0 l0.length c0] ?_; refine (Zbk.calls k A0 c0 l0 false w HR0.out HC0.out HT.out).mono ?_; rintro e w1 ⟨rfl, ⟨nd, rfl⟩⟩; refine ⟨_, rfl, ?_⟩))
  go_ret2
  exact ⟨_, rfl, Kd.R_nil _ _ _ _ _, pw_below_drewN (Below.refl _ _) _⟩
 | true =>
  replace h : (if l0.length ≤ 5 ∧ ∀ x ∈ l0, 0 ≤ x ∧ x ≤ 5 then some ((combAt l0 l0.length).1, true) else none) = some (r1, r2) := h
  split at h
  case isFalse => cases h
  rename_i hg
  obtain ⟨rfl, rfl⟩ := Prod.mk.inj (Option.some.inj h)
  have HLEN := Aside0.mk hg.1
  have HX := Aside0.mk hg.2
  clear h hg
  go_enter Try.func6, Try.ntmps6
  go_wp2_with (first | ((with_reducible refine gate_callee (f := 35) rfl ?_); refine goesA (some 14) Try.func35 #[.slice A0 l0.length c0] ?_; refine (Zbk.calls k A0 c0 l0 true w HR0.out HC0.out HT.out).mono ?_; rintro e w1 ⟨rfl, ⟨nd, rfl⟩⟩; refine ⟨_, rfl, ?_⟩; have HC1 := Aside0.mk (Kd.C_below HR0.out (pw_below_drewN (Below.refl _ _) nd))))
  go_loopw [4, 20] (fun v4 v20 wr => ∃ i : Nat, i ≤ l0.length ∧ v4 = .int .i64 (combSum l0 i) ∧ v20 = .int .i64 (i : Int) ∧ wr = w.drewN nd) (fun _ v20 _ => l0.length - (intOf v20).toNat)
  case atStart => exact ⟨0, Nat.zero_le _, rfl, rfl, rfl⟩
  case round =>
   obtain ⟨i, hi, rfl, rfl, hw⟩ := hrel
   subst hw
   have hl5 := HLEN.out
   by_cases hlt : i < l0.length
   ·have HI := Aside0.mk hlt
    have c1 : decide ((i : Int) < (l0.length : Int)) = true := decide_eq_true (by omega)
    have c1n := decide_eq_true hlt
    have p1 : 0 ≤ (i : Int) := by omega
    have q1 : (i : Int) < (l0.length : Int) := by omega
    obtain ⟨ad, ea, hx⟩ := Kd.at_int HC1.out (i : Int) p1 q1
    rw [Int.toNat_natCast] at hx
    cases ea
    replace p1 := eq_true p1
    replace q1 := eq_true q1
    clear hi
    go_wp2
    go_roundw
    case rel => exact ⟨i + 1, HI.out, by first | trivial | rfl, by go_num, by first | trivial | rfl⟩
    case measure => simp [intOf]; have := HI.out; omega
   ·obtain rfl : i = l0.length := by omega
    have c1 : decide ((l0.length : Int) < (l0.length : Int)) = false := decide_eq_false (by omega)
    have c1n : decide (l0.length < l0.length) = false := decide_eq_false (by omega)
    clear hlt hi
    go_wp2_with (first | ((with_reducible refine gate_dst (N := 7) rfl ?_); refine box_event ?hg (N := 7) ?hd (cs := #[.slice none 0 0]) (t := 24) ?hr ?_; (case hd => rfl); (case hg => rfl); (case hr => first | (go_simp; done) | (go_simp; rfl)); intro g7 hg w7 hbox hb; have G7 := Aside0.mk (show w.heap.size ≤ g7 by have := (pw_below_drewN (Below.refl w.heap.size w) nd).size; omega); have X7 := Aside0.mk hbox; have Y7 := Aside0.mk (show Below w.heap.size w w7 from below_step (pw_below_drewN (Below.refl _ _) nd) hb); clear hbox hb hg) | ((with_reducible refine gate_dst (N := 8) rfl ?_); refine box_event ?hg (N := 8) ?hd (cs := #[.int .i64 0]) (t := 3) ?hr ?_; (case hd => rfl); (case hg => rfl); (case hr => first | (go_simp; done) | (go_simp; rfl)); intro g8 hg w8 hbox hb; have G8 := Aside0.mk (show w.heap.size ≤ g8 by have := Y7.out.size; omega); have X8 := Aside0.mk hbox; have Z7 := Aside0.mk (blk_below X7.out hb); have Y8 := Aside0.mk (Y7.out.trans (hb.mono Y7.out.size)); clear hbox hb hg) | ((with_reducible refine gate_dst (N := 9) rfl ?_); refine box_event ?hg (N := 9) ?hd (cs := #[.int .i64 0]) (t := 3) ?hr ?_; (case hd => rfl); (case hg => rfl); (case hr => first | (go_simp; done) | (go_simp; rfl)); intro g9 hg w9 hbox hb; have G9 := Aside0.mk (show w.heap.size ≤ g9 by have := Y8.out.size; omega); have HNE := Aside0.mk (show g8 ≠ g9 by have := lt_of_cells X8.out; omega); have Z8 := Aside0.mk (blk_below X8.out hb); have V7 := Aside0.mk (blk_below Z7.out hb); have n8 := cells_ne Z8.out V7.out (by decide); have n9 := cells_ne hbox V7.out (by decide); have Y9 := Aside0.mk (Y8.out.trans (hb.mono Y8.out.size)); have hc8 := cell_of_one Z8.out; have hf8 := free_of_one Z8.out; have X9 := Aside0.mk ((Below.heap_setCell w9 ⟨g8, 0, none⟩ (.int .i64 0) g9 (fun e => HNE.out e.symm)).trans hbox); have hc9 := cell_of_one X9.out; have hf9 := free_of_one X9.out; have HI3 := Aside0.mk (show CombI w.heap.size g7 g8 g9 (combAt l0 0) ((w9.setCell ⟨g8, 0, none⟩ (.int .i64 0)).setCell ⟨g9, 0, none⟩ (.int .i64 (wrap64 (combSum l0 l0.length - 1)))) from ⟨⟨_, (Below.heap_setCell _ _ _ g7 (fun e => n9 e.symm)).trans ((Below.heap_setCell _ _ _ g7 (fun e => n8 e.symm)).trans V7.out), Kd.R_nil _ _ _ _ _⟩, (Below.heap_setCell _ _ _ g8 (fun e => HNE.out e)).trans (one_setCell Z8.out), one_setCell X9.out⟩); have HB3 := Aside0.mk ((Y9.out.setCell (show w.heap.size ≤ (⟨g8, 0, none⟩ : Addr).block from G8.out) (.int .i64 0)).setCell (show w.heap.size ≤ (⟨g9, 0, none⟩ : Addr).block from G9.out) (.int .i64 (wrap64 (combSum l0 l0.length - 1)))); clear hbox hb hg n8 n9))
    go_loopw [33] (fun v33 wr => ∃ i : Nat, i ≤ l0.length ∧ v33 = .int .i64 (i : Int) ∧ Aside0 (CombI w.heap.size g7 g8 g9 (combAt l0 i) wr) ∧ Aside0 (Below w.heap.size w wr)) (fun v33 _ => l0.length - (intOf v33).toNat)
    case atStart => exact ⟨0, Nat.zero_le _, rfl, HI3, HB3⟩
    case round =>
     obtain ⟨i, hi, rfl, HI4, HB4⟩ := hrel
     by_cases hlt : i < l0.length
     rotate_left
     ·obtain rfl : i = l0.length := by omega
      have c2 : decide ((l0.length : Int) < (l0.length : Int)) = false := decide_eq_false (by omega)
      have c2n : decide (l0.length < l0.length) = false := decide_eq_false (by omega)
      obtain ⟨⟨v, ho, hs⟩, _, _⟩ := HI4.out
      obtain ⟨A9, c9, e9⟩ := Kd.R_slice hs
      subst e9
      have HS9 := Aside0.mk hs
      have hc9 := cell_of_one ho
      clear hlt hi ho hs
      go_wp2
      go_ret2
      exact ⟨_, rfl, Kd.R_mono HS9.out (fun _ _ => trivial), HB4.out⟩
     have HI := Aside0.mk hlt
     have c2 : decide ((i : Int) < (l0.length : Int)) = true := decide_eq_true (by omega)
     have c2n := decide_eq_true hlt
     have p1 : 0 ≤ (i : Int) := by omega
     have q1 : (i : Int) < (l0.length : Int) := by omega
     have HCr := Aside0.mk (Kd.C_below HR0.out HB4.out)
     obtain ⟨ad, ea, hx⟩ := Kd.at_int HCr.out (i : Int) p1 q1
     rw [Int.toNat_natCast] at hx
     obtain ⟨m, hm, hm5⟩ : ∃ m : Nat, rd l0 (i : Int) = (m : Int) ∧ m ≤ 5 := by
      have h1 := HX.out _ (List.getElem_mem hlt)
      rw [← rd_nat l0 i hlt] at h1
      exact ⟨(rd l0 (i : Int)).toNat, by omega, by omega⟩
     rw [hm] at hx
     have HM := Aside0.mk hm
     have HLB := Aside0.mk (combAt_len l0 HX.out i (by omega))
     cases ea
     replace p1 := eq_true p1
     replace q1 := eq_true q1
     clear hi hm
     go_wp2_with (first | ((with_reducible refine gate_fval (p := 38) rfl ?_); refine goesF_ (f := 36) (fn := Try.f36) (some 42) rfl rfl (Try.func36) (by kernel_rfl) rfl #[.bool ((i : Int).tmod 2 == 0)] rfl (by first | rfl | (simp [Act.eval]; done) | (simp [Act.eval]; rfl)) (by (try simp only [List.map_toArray, List.map_cons, List.map_nil]); first | done | rfl) ?_; refine (combTake_call HNE.out G7.out G8.out G9.out ((i : Int).tmod 2 == 0) (combAt l0 i) _ HI4.out (by have := HLB.out; omega)).mono ?_; rintro e wt ⟨rfl, hIt, hBt⟩; refine ⟨_, rfl, ?_⟩; have HI5 := Aside0.mk hIt; have HB5 := Aside0.mk (HB4.out.trans hBt); clear hIt hBt))
     go_loopw [44] (fun v44 wr => ∃ j : Nat, j ≤ m ∧ v44 = .int .i64 (j : Int) ∧ Aside0 (CombI w.heap.size g7 g8 g9 (combTakes ((i : Int).tmod 2 == 1) (combTake ((i : Int).tmod 2 == 0) (combAt l0 i)) j) wr) ∧ Aside0 (Below w.heap.size w wr)) (fun v44 _ => m - (intOf v44).toNat)
     case atStart => exact ⟨0, Nat.zero_le _, rfl, HI5, HB5⟩
     case round =>
      obtain ⟨j, hj, rfl, HI6, HB6⟩ := hrel
      by_cases hjl : j < m
      ·have HJ := Aside0.mk hjl
       have c3 : decide ((j : Int) < (m : Int)) = true := decide_eq_true (by omega)
       have c3n := decide_eq_true hjl
       have HLJ := Aside0.mk (show (combTakes ((i : Int).tmod 2 == 1) (combTake ((i : Int).tmod 2 == 0) (combAt l0 i)) j).1.length ≤ 1000 by rw [combTakes_len, combTake_len]; have := HLB.out; omega)
       clear hj
       go_wp2_with (first | ((with_reducible refine gate_fval (p := 46) rfl ?_); refine goesF_ (f := 36) (fn := Try.f36) (some 50) rfl rfl (Try.func36) (by kernel_rfl) rfl #[.bool ((i : Int).tmod 2 == 1)] rfl (by first | rfl | (simp [Act.eval]; done) | (simp [Act.eval]; rfl)) (by (try simp only [List.map_toArray, List.map_cons, List.map_nil]); first | done | rfl) ?_; refine (combTake_call HNE.out G7.out G8.out G9.out ((i : Int).tmod 2 == 1) _ _ HI6.out HLJ.out).mono ?_; rintro e wt ⟨rfl, hIt, hBt⟩; refine ⟨_, rfl, ?_⟩; have HI7 := Aside0.mk hIt; have HB7 := Aside0.mk (HB6.out.trans hBt); clear hIt hBt))
       go_roundw
       case rel => exact ⟨j + 1, HJ.out, by go_num, HI7, HB7⟩
       case measure => simp [intOf]; have := HJ.out; omega
      obtain rfl : j = m := by omega
      have c3 : decide ((j : Int) < (j : Int)) = false := decide_eq_false (by omega)
      have c3n : decide (j < j) = false := decide_eq_false (by omega)
      have HI8 := Aside0.mk (show CombI w.heap.size g7 g8 g9 (combAt l0 (i + 1)) _ from by
       have h1 := HI6.out
       show CombI _ _ _ _ (combTakes _ _ (rd l0 (i : Int)).toNat) _
       rw [HM.out, Int.toNat_natCast]
       exact h1)
      clear hjl hj
      go_wp2
      go_roundw
      case rel => exact ⟨i + 1, HI.out, by go_num, HI8, HB6⟩
      case measure => simp [intOf]; have := HI.out; omega
mutual
def Zbh.l0 : Nat → List Int → Int → List Int → Int → Int → Option (List Int × Bool)
 | 0, _, _, _, _, _ => none
 | k + 1, x4, x5, x12, x13, x14 => if x14 < x13 then (if 0 ≤ x14 then (if x14 < (x12.length : Int) then (if x4.length < 17592186044416 then (Zbh.l1 k (x4 ++ [x5]) (x4.length : Int) x12 x13 x14 (rd x12 x14) 0) else (none)) else (none)) else (none)) else (some (x4, true))
def Zbh.l1 : Nat → List Int → Int → List Int → Int → Int → Int → Int → Option (List Int × Bool)
 | 0, _, _, _, _, _, _, _ => none
 | k + 1, x4, x8, x12, x13, x14, x24, x25 => if x25 < x24 then (if x4.length < 17592186044416 then (Zbh.l1 k (x4 ++ [x8]) x8 x12 x13 x14 x24 (wrap64 (x25 + 1))) else (none)) else (Zbh.l0 k x4 x8 x12 x13 (wrap64 (x14 + 1)))
end
def Zbh.f (k : Nat) (l0 : List Int) : Option (List Int × Bool) := (Zbk.f k l0).bind fun t170 => (if t170 = true then (Zbh.l0 k ([] : List Int) (-1) l0 (l0.length : Int) 0) else (some (([] : List Int), false)))
theorem Zbh.mono_l : ∀ k, (∀ y0 y1 y2 y3 y4, LeO (Zbh.l0 k y0 y1 y2 y3 y4) (Zbh.l0 (k + 1) y0 y1 y2 y3 y4)) ∧ (∀ y0 y1 y2 y3 y4 y5 y6, LeO (Zbh.l1 k y0 y1 y2 y3 y4 y5 y6) (Zbh.l1 (k + 1) y0 y1 y2 y3 y4 y5 y6))
 | 0 => ⟨fun _ _ _ _ _ r h => by simp [Zbh.l0] at h, fun _ _ _ _ _ _ _ r h => by simp [Zbh.l1] at h⟩
 | k + 1 => by
  obtain ⟨ih0, ih1⟩ := Zbh.mono_l k
  refine ⟨?_, ?_⟩
  ·intro y0 y1 y2 y3 y4
   unfold Zbh.l0
   repeat' (first | (with_reducible first | exact ih1 _ _ _ _ _ _ _ | exact LeO.refl _ | exact LeO.none _ | refine LeO.ite ?_ ?_ | refine LeO.bind ?_ (fun _ => ?_)) | exact ih1 _ _ _ _ _ _ _ | exact LeO.none _ | refine LeO.ite ?_ ?_ | refine LeO.bind ?_ (fun _ => ?_))
  ·intro y0 y1 y2 y3 y4 y5 y6
   unfold Zbh.l1
   repeat' (first | (with_reducible first | exact ih0 _ _ _ _ _ | exact ih1 _ _ _ _ _ _ _ | exact LeO.refl _ | exact LeO.none _ | refine LeO.ite ?_ ?_ | refine LeO.bind ?_ (fun _ => ?_)) | exact ih0 _ _ _ _ _ | exact ih1 _ _ _ _ _ _ _ | exact LeO.none _ | refine LeO.ite ?_ ?_ | refine LeO.bind ?_ (fun _ => ?_))
theorem Zbh.mono : ∀ a0 k, LeO (Zbh.f k a0) (Zbh.f (k + 1) a0) := by
 intro a0 k
 obtain ⟨ih0, ih1⟩ := Zbh.mono_l k
 unfold Zbh.f
 repeat' (first | (with_reducible first | exact ih0 _ _ _ _ _ | exact Zbk.mono _ _ | exact LeO.refl _ | exact LeO.none _ | refine LeO.ite ?_ ?_ | refine LeO.bind ?_ (fun _ => ?_)) | exact ih0 _ _ _ _ _ | exact Zbk.mono _ _ | exact LeO.none _ | refine LeO.ite ?_ ?_ | refine LeO.bind ?_ (fun _ => ?_))
theorem Zbh.calls (k : Nat) (A0 : Option Addr) (c0 : Nat) (l0 : List Int) (r1 : List Int) (r2 : Bool) (w : World) (hr0 : Kd.C (Kd.int .i64) w A0 l0.length l0) (hc0 : l0.length ≤ c0) (h : Zbh.f k l0 = some (r1, r2)) :
  Calls Try.prog 8 #[.slice A0 l0.length c0] w fun e w' => ∃ v0_ : Value, e = .returned (.tuple #[v0_, .bool r2]) ∧ Kd.R (Kd.int .i64) 3 w' w.heap.size (fun _ => True) v0_ r1 ∧ Below w.heap.size w w' := by
 have HR0 := Aside0.mk hr0
 have HC0 := Aside0.mk hc0
 clear hr0 hc0
 have HB := Aside0.mk (Below.refl w.heap.size w)
 have H := h
 unfold Zbh.f at H
 clear h
 obtain ⟨t170, A2, H⟩ := bs_ H
 (try dsimp only at H)
 by_cases c3 : t170 = true
 rotate_left
 ·replace c3 := Bool.eq_false_iff.mpr c3
  subst c3
  replace H := if_ H
  simp only [Option.some.injEq, Prod.mk.injEq] at H
  obtain ⟨rfl, rfl⟩ := H
  go_enter Try.func8, Try.ntmps8
  go_wp2_with (first | ((with_reducible refine gate_callee (f := 35) rfl ?_); refine goesA (some 10) Try.func35 #[.slice A0 l0.length c0] ?_; (with_reducible refine (Zbk.calls k _ _ l0 false _ ?side1 ?side2 A2.out).mono ?_); (case side1 => repeat (first | exact HR0.out | (with_reducible refine Kd.C_alloc ?_ _) | (with_reducible refine Kd.C_drewN ?_ _) | (with_reducible refine Kd.C_drew ?_))); (case side2 => exact HC0.out); rintro e w' ⟨rfl, ⟨nd, rfl⟩⟩; refine ⟨_, rfl, ?_⟩))
  go_ret2
  exact ⟨_, eqr, by first | exact Kd.R_nil _ _ _ _ _ | exact Kd.N_nil _ _ _ _ _ | exact Kd.V_nil _ _ _ _ _ | exact Kd.Q_nil _ _ _ _ _ | exact Kd.S_nil _ _ _ _ _, atB HB⟩
 subst c3
 replace H := it_ H
 have H' := Aside0.mk H
 clear H
 go_enter Try.func8, Try.ntmps8
 go_wp2_with (first | ((with_reducible refine gate_callee (f := 35) rfl ?_); refine goesA (some 10) Try.func35 #[.slice A0 l0.length c0] ?_; (with_reducible refine (Zbk.calls k _ _ l0 true _ ?side1 ?side2 A2.out).mono ?_); (case side1 => repeat (first | exact HR0.out | (with_reducible refine Kd.C_alloc ?_ _) | (with_reducible refine Kd.C_drewN ?_ _) | (with_reducible refine Kd.C_drew ?_))); (case side2 => exact HC0.out); rintro e w' ⟨rfl, ⟨nd, rfl⟩⟩; refine ⟨_, rfl, ?_⟩))
 go_loopg [4, 5, 14] k (fun kq v4 v5 v14 w' => ∃ (x4_1 : List Int) (x5_1 : Int) (x14_1 : Int), v5 = .int .i64 x5_1 ∧ v14 = .int .i64 x14_1 ∧ Aside0 (Zbh.l0 kq x4_1 x5_1 l0 (l0.length : Int) x14_1 = some (r1, r2)) ∧ Aside0 (kq ≤ k) ∧ Aside0 (Kd.R (Kd.int .i64) 3 w' w.heap.size (fun _ => True) v4 x4_1) ∧ Aside0 (Below w.heap.size w w'))
 case atStart => exact ⟨(([] : List Int)), ((-1)), (0), eqd, eqd, H', ⟨Nat.le_refl _⟩, ⟨by first | exact Kd.R_nil _ _ _ _ _ | exact Kd.N_nil _ _ _ _ _ | exact Kd.V_nil _ _ _ _ _ | exact Kd.Q_nil _ _ _ _ _ | exact Kd.S_nil _ _ _ _ _⟩, ⟨atB HB⟩⟩
 case round =>
  clear H'
  try clear c3
  obtain ⟨x4_1, x5_1, x14_1, rfl, rfl, HA, HK1, HO_4, HB⟩ := hrel
  cases gk with
  | zero => exact absurd HA.out (by simp [Zbh.l0])
  | succ k1 =>
   have H := HA.out
   clear HA
   simp only [Zbh.l0] at H
   by_cases c4 : x14_1 < (l0.length : Int)
   rotate_left
   ·rw [if_neg c4] at H
    have c4b0 := decide_eq_false c4
    clear c4
    simp only [Option.some.injEq, Prod.mk.injEq] at H
    obtain ⟨rfl, rfl⟩ := H
    go_wp2
    go_ret2
    exact ⟨_, eqr, atR HO_4, atB HB⟩
   rw [if_pos c4] at H
   have c4b0 := decide_eq_true c4
   clear c4
   obtain ⟨c5b0, H⟩ := in_ H
   obtain ⟨c6b0, H⟩ := in_ H
   obtain ⟨c7, H⟩ := in0_ H
   have LMc7 := Aside0.mk c7
   clear c7
   obtain ⟨y172, hy172⟩ : ∃ y_ : List Int, y_ = (x4_1 ++ [x5_1]) := ⟨_, rfl⟩
   replace H : (Zbh.l1 k1 y172 (x4_1.length : Int) l0 (l0.length : Int) x14_1 (rd l0 x14_1) 0) = some (r1, r2) := by first | (rw [hy172]; with_reducible exact H) | (have H2_ := (Option.bind_some _ _).symm.trans H; rw [hy172]; with_reducible exact H2_) | (have H2_ := (Option.bind_some _ _).symm.trans H; with_reducible exact H2_) | with_reducible exact H | (rw [hy172]; exact H) | exact H
   have Ny172 := Aside0.mk hy172
   clear hy172
   have H' := Aside0.mk H
   clear H
   have p171 : 0 ≤ (x14_1 : Int) := ofd
   have q171 : x14_1 < (l0.length : Int) := ofd
   obtain ⟨ad171, e171, hx171_0⟩ := Kd.at_int HR0.out x14_1 p171 q171
   cases e171
   (try replace hx171_0 := (HB.out.cell (World.block_lt_of_cell? w _ hx171_0)).trans hx171_0)
   replace p171 := eq_true p171
   replace q171 := eq_true q171
   obtain ⟨Ao8, co8, eo8⟩ := Kd.R_slice HO_4.out
   subst eo8
   go_wp2_with (first | ((with_reducible refine gate_builtin (b := .append) (xs := #[.tmp 20, .tmp 22]) rfl ?_); at_builtin; refine Kd.R_append (Kd.int .i64) (w0 := w) w.heap.size rfl (.tmp 20) (.tmp 22) 24 3 (.int .i64 0) 8 rfl Try.underlying24 info3 rfl (by decide) (by omega) (.slice Ao8 x4_1.length co8) x4_1 x5_1 [.int .i64 x5_1] (fun _ => True) (fun _ => False) rfl rfl ?aP (fun _ hk => hk.elim) ?aF ?aO ?aB ?aS ?aL ?_; (case aP => exact rfl); (case aB => exact (atB HB)); (case aF => exact (fun _ _ => trivial)); (case aO => exact (atR HO_4)); (case aS => exact (szB HB)); (case aL => have := LMc7.out; omega); intro v173 w9 ho hb hg hat; rw [← Ny172.out] at ho; have HO174 := Aside0.mk (ho); replace HB := Aside0.mk (hb); clear HO_4; clear ho hb hg hat))
   go_loopg [4, 25] k1 (fun kq v4 v25 w' => ∃ (x4_2 : List Int) (x25_2 : Int), v25 = .int .i64 x25_2 ∧ Aside0 (Zbh.l1 kq x4_2 (x4_1.length : Int) l0 (l0.length : Int) x14_1 (rd l0 x14_1) x25_2 = some (r1, r2)) ∧ Aside0 (kq ≤ k1) ∧ Aside0 (Kd.R (Kd.int .i64) 3 w' w.heap.size (fun _ => True) v4 x4_2) ∧ Aside0 (Below w.heap.size w w'))
   case atStart => exact ⟨(y172), (0), eqd, H', ⟨Nat.le_refl _⟩, ⟨atR HO174⟩, ⟨atB HB⟩⟩
   case round =>
    clear H'
    try clear c4b0
    try clear c5b0
    try clear c6b0
    try clear hx171_0
    try clear p171
    try clear q171
    obtain ⟨x4_2, x25_2, rfl, HA, HK2, HO_4, HB⟩ := hrel
    cases gk with
    | zero => exact absurd HA.out (by simp [Zbh.l1])
    | succ k2 =>
     have H := HA.out
     clear HA
     simp only [Zbh.l1] at H
     by_cases c10 : x25_2 < (rd l0 x14_1)
     rotate_left
     ·rw [if_neg c10] at H
      have c10b0 := decide_eq_false c10
      clear c10
      have H' := Aside0.mk H
      clear H
      go_wp2
      go_roundg k2
      case measure => have := HK1.out; have := HK2.out; omega
      case rel => exact ⟨(x4_2), ((x4_1.length : Int)), (wrap64 (x14_1 + 1)), eqd, eqd, H', ⟨by have := HK1.out; have := HK2.out; omega⟩, ⟨atR HO_4⟩, ⟨atB HB⟩⟩
     rw [if_pos c10] at H
     have c10b0 := decide_eq_true c10
     clear c10
     obtain ⟨c11, H⟩ := in0_ H
     have LMc11 := Aside0.mk c11
     clear c11
     obtain ⟨y175, hy175⟩ : ∃ y_ : List Int, y_ = (x4_2 ++ [(x4_1.length : Int)]) := ⟨_, rfl⟩
     replace H : (Zbh.l1 k2 y175 (x4_1.length : Int) l0 (l0.length : Int) x14_1 (rd l0 x14_1) (wrap64 (x25_2 + 1))) = some (r1, r2) := by first | (rw [hy175]; with_reducible exact H) | (have H2_ := (Option.bind_some _ _).symm.trans H; rw [hy175]; with_reducible exact H2_) | (have H2_ := (Option.bind_some _ _).symm.trans H; with_reducible exact H2_) | with_reducible exact H | (rw [hy175]; exact H) | exact H
     have Ny175 := Aside0.mk hy175
     clear hy175
     have H' := Aside0.mk H
     clear H
     go_wp2_with (first | ((with_reducible refine gate_builtin (b := .append) (xs := #[.tmp 27, .tmp 29]) rfl ?_); at_builtin; refine Kd.R_append (Kd.int .i64) (w0 := w) w.heap.size rfl (.tmp 27) (.tmp 29) 24 3 (.int .i64 0) 8 rfl Try.underlying24 info3 rfl (by decide) (by omega) u4 x4_2 (x4_1.length : Int) [.int .i64 (x4_1.length : Int)] (fun _ => True) (fun _ => False) rfl rfl ?aP (fun _ hk => hk.elim) ?aF ?aO ?aB ?aS ?aL ?_; (case aP => exact rfl); (case aB => exact (atB HB)); (case aF => exact (fun _ _ => trivial)); (case aO => exact (atR HO_4)); (case aS => exact (szB HB)); (case aL => have := LMc11.out; omega); intro v176 w12 ho hb hg hat; rw [← Ny175.out] at ho; have HO177 := Aside0.mk (ho); replace HB := Aside0.mk (hb); clear HO_4; clear ho hb hg hat))
     go_roundg k2
     case measure => have := HK1.out; have := HK2.out; omega
     case rel => exact ⟨(y175), (wrap64 (x25_2 + 1)), eqd, H', ⟨by have := HK1.out; have := HK2.out; omega⟩, ⟨atR HO177⟩, ⟨atB HB⟩⟩
noncomputable def Zbh.F (l0 : List Int) : Option (List Int × Bool) := lim fun k => Zbh.f k l0
theorem Zbh.F_lim (l0 : List Int) : Lim (fun k => Zbh.f k l0) (Zbh.F l0) := Lim.of fun k => Zbh.mono l0 k
def Zcs.f (a0 : Int) : Option (Bool) := if a0 ≥ 1 then (some (decide (a0 ≤ 9))) else (some false)
theorem Zcs.calls (a0 : Int) (r : Bool) (w : World) (h : Zcs.f a0 = some r) :
  Calls Try.prog 43 #[.int .i64 a0] w fun e w' => e = .returned (.bool r) ∧ Drawn0 w w' := by
 have H := h
 unfold Zcs.f at H
 clear h
 by_cases c2 : a0 ≥ 1
 rotate_left
 ·rw [if_neg c2] at H
  have c2b0 := decide_eq_false c2
  clear c2
  obtain rfl := Option.some.inj H
  go_enter Try.func43, Try.ntmps43
  go_wp2
  go_ret
  exact ⟨by first | rfl | (simp; done) | (simp [*]; done), by repeat (first | exact Drawn0.refl _ | apply Drawn0.step)⟩
 rw [if_pos c2] at H
 have c2b0 := decide_eq_true c2
 clear c2
 obtain rfl := Option.some.inj H
 go_enter Try.func43, Try.ntmps43
 go_wp2
 go_ret
 exact ⟨by first | rfl | (simp; done) | (simp [*]; done), by repeat (first | exact Drawn0.refl _ | apply Drawn0.step)⟩
mutual
def Zag.j0 : Nat → List Int → Bool → Option (Bool)
 | 0, _, _ => none
 | k + 1, x0, x13 => if x13 = true then (some false) else (Zag.l0 k x0 1)
def Zag.l0 : Nat → List Int → Int → Option (Bool)
 | 0, _, _ => none
 | k + 1, x0, x3 => if x3 < (x0.length : Int) then (if 0 ≤ x3 then (if (rd x0 x3) < 0 then (some false) else (if (rd x0 x3) ≥ x3 then (some false) else (Zag.l0 k x0 (wrap64 (x3 + 1))))) else (none)) else (some true)
end
def Zag.f (k : Nat) (l0 : List Int) : Option (Bool) := (Zcs.f (l0.length : Int)).bind fun t184 => (if t184 = true then (if 0 < (l0.length : Int) then (Zag.j0 k l0 ((rd l0 0) != (-1))) else (none)) else (Zag.j0 k l0 true))
theorem Zag.mono_l : ∀ k, (∀ y0 y1, LeO (Zag.j0 k y0 y1) (Zag.j0 (k + 1) y0 y1)) ∧ (∀ y0 y1, LeO (Zag.l0 k y0 y1) (Zag.l0 (k + 1) y0 y1))
 | 0 => ⟨fun _ _ r h => by simp [Zag.j0] at h, fun _ _ r h => by simp [Zag.l0] at h⟩
 | k + 1 => by
  obtain ⟨ih0, ih1⟩ := Zag.mono_l k
  refine ⟨?_, ?_⟩
  ·intro y0 y1
   unfold Zag.j0
   repeat' (first | (with_reducible first | exact ih1 _ _ | exact LeO.refl _ | exact LeO.none _ | refine LeO.ite ?_ ?_ | refine LeO.bind ?_ (fun _ => ?_)) | exact ih1 _ _ | exact LeO.none _ | refine LeO.ite ?_ ?_ | refine LeO.bind ?_ (fun _ => ?_))
  ·intro y0 y1
   unfold Zag.l0
   repeat' (first | (with_reducible first | exact ih1 _ _ | exact LeO.refl _ | exact LeO.none _ | refine LeO.ite ?_ ?_ | refine LeO.bind ?_ (fun _ => ?_)) | exact ih1 _ _ | exact LeO.none _ | refine LeO.ite ?_ ?_ | refine LeO.bind ?_ (fun _ => ?_))
theorem Zag.mono : ∀ a0 k, LeO (Zag.f k a0) (Zag.f (k + 1) a0) := by
 intro a0 k
 obtain ⟨ih0, ih1⟩ := Zag.mono_l k
 unfold Zag.f
 repeat' (first | (with_reducible first | exact ih0 _ _ | exact LeO.refl _ | exact LeO.none _ | refine LeO.ite ?_ ?_ | refine LeO.bind ?_ (fun _ => ?_)) | exact ih0 _ _ | exact LeO.none _ | refine LeO.ite ?_ ?_ | refine LeO.bind ?_ (fun _ => ?_))
theorem Zag.calls (k : Nat) (A0 : Option Addr) (c0 : Nat) (l0 : List Int) (r : Bool) (w : World) (hr0 : Kd.C (Kd.int .i64) w A0 l0.length l0) (hc0 : l0.length ≤ c0) (h : Zag.f k l0 = some r) :
  Calls Try.prog 19 #[.slice A0 l0.length c0] w fun e w' => e = .returned (.bool r) ∧ Drawn0 w w' := by
 have HR0 := Aside0.mk hr0
 have HC0 := Aside0.mk hc0
 clear hr0 hc0
 have H := h
 unfold Zag.f at H
 clear h
 have HC2 := Aside0.mk H
 clear H
 go_enter Try.func19, Try.ntmps19
 go_upto_region 1 with (fail)
 go_cut [13] (fun v13 wc => ∃ (kq : Nat) (x13_1 : Bool), v13 = .bool x13_1 ∧ Aside0 (Zag.j0 kq l0 x13_1 = some r) ∧ Aside0 (kq ≤ k) ∧ Drawn0 w wc)
 case first =>
  have H := HC2.out
  clear HC2
  obtain ⟨t184, A3, H⟩ := bs_ H
  (try dsimp only at H)
  by_cases c4 : t184 = true
  rotate_left
  ·replace c4 := Bool.eq_false_iff.mpr c4
   subst c4
   replace H := if_ H
   have H' := Aside0.mk H
   clear H
   go_wp2_with (first | ((with_reducible refine gate_callee (f := 43) rfl ?_); refine goesA (some 6) Try.func43 #[.int .i64 (l0.length : Int)] ?_; (with_reducible refine (Zcs.calls (l0.length : Int) false _ A3.out).mono ?_); rintro e w' ⟨rfl, ⟨nd, rfl⟩⟩; refine ⟨_, rfl, ?_⟩))
   go_meet
   case rel => exact ⟨_, (true), eqd, H', ⟨leD⟩, by repeat (first | exact Drawn0.refl _ | apply Drawn0.step)⟩
  subst c4
  replace H := it_ H
  obtain ⟨c5, H⟩ := in0_ H
  have c5b0 := decide_eq_true c5
  have c5b1 : decide (0 < l0.length) = true := decide_eq_true (by omega)
  clear c5
  (first | rw [c5b0] | (simp only [i64_w, i32_w]; rw [c5b0]) | skip)
  have H' := Aside0.mk H
  clear H
  go_wp2_with (first | ((with_reducible refine gate_callee (f := 43) rfl ?_); refine goesA (some 6) Try.func43 #[.int .i64 (l0.length : Int)] ?_; (with_reducible refine (Zcs.calls (l0.length : Int) true _ A3.out).mono ?_); rintro e w' ⟨rfl, ⟨nd, rfl⟩⟩; refine ⟨_, rfl, ?_⟩; have p185 : 0 ≤ (0 : Int) := (by omega); have q185 : 0 < (l0.length : Int) := ofd; obtain ⟨ad185, e185, hx185_0⟩ := Kd.at_int HR0.out 0 p185 q185; cases e185; have qi185 : (0 < l0.length) = True := eq_true (by omega); (try rw [show ((0 : Int)).toNat = 0 from rfl] at hx185_0); (try rw [Addr.add_zero'] at hx185_0); replace p185 := eq_true p185; replace q185 := eq_true q185))
  go_meet
  case rel => exact ⟨_, (((rd l0 0) != (-1))), eqd, H', ⟨leD⟩, by repeat (first | exact Drawn0.refl _ | apply Drawn0.step)⟩
 case rest =>
  clear HC2
  obtain ⟨kq, x13_1, rfl, HA, HJ1, ⟨mc1, rfl⟩⟩ := hcut
  cases kq with
  | zero => exact absurd HA.out (by simp [Zag.j0])
  | succ kj1 =>
   have H := HA.out
   clear HA
   simp only [Zag.j0] at H
   by_cases c6 : x13_1 = true
   ·subst c6
    replace H := it_ H
    obtain rfl := Option.some.inj H
    go_wp2
    go_ret
    exact ⟨by first | rfl | (simp; done) | (simp [*]; done), by repeat (first | exact Drawn0.refl _ | apply Drawn0.step)⟩
   replace c6 := Bool.eq_false_iff.mpr c6
   subst c6
   replace H := if_ H
   have H' := Aside0.mk H
   clear H
   go_wp2
   go_loopg [3] kj1 (fun kq v3 w' => ∃ (x3_2 : Int), v3 = .int .i64 x3_2 ∧ Aside0 (Zag.l0 kq l0 x3_2 = some r) ∧ Aside0 (kq ≤ kj1) ∧ Drawn0 w w')
   case atStart => exact ⟨(1), eqd, H', ⟨Nat.le_refl _⟩, by repeat (first | exact Drawn0.refl _ | apply Drawn0.step)⟩
   case round =>
    clear H'
    try clear c6
    obtain ⟨x3_2, rfl, HA, HK2, ⟨m2, rfl⟩⟩ := hrel
    cases gk with
    | zero => exact absurd HA.out (by simp [Zag.l0])
    | succ k2 =>
     have H := HA.out
     clear HA
     simp only [Zag.l0] at H
     by_cases c7 : x3_2 < (l0.length : Int)
     rotate_left
     ·rw [if_neg c7] at H
      have c7b0 := decide_eq_false c7
      clear c7
      obtain rfl := Option.some.inj H
      go_wp2
      go_ret
      exact ⟨by first | rfl | (simp; done) | (simp [*]; done), by repeat (first | exact Drawn0.refl _ | apply Drawn0.step)⟩
     rw [if_pos c7] at H
     have c7b0 := decide_eq_true c7
     clear c7
     obtain ⟨c8b0, H⟩ := in_ H
     by_cases c9 : (rd l0 x3_2) < 0
     ·rw [if_pos c9] at H
      have c9b0 := decide_eq_true c9
      clear c9
      obtain rfl := Option.some.inj H
      have p186 : 0 ≤ (x3_2 : Int) := ofd
      have q186 : x3_2 < (l0.length : Int) := ofd
      obtain ⟨ad186, e186, hx186_0⟩ := Kd.at_int HR0.out x3_2 p186 q186
      cases e186
      replace p186 := eq_true p186
      replace q186 := eq_true q186
      go_wp2
      go_ret
      exact ⟨by first | rfl | (simp; done) | (simp [*]; done), by repeat (first | exact Drawn0.refl _ | apply Drawn0.step)⟩
     ·rw [if_neg c9] at H
      have c9b0 := decide_eq_false c9
      clear c9
      by_cases c10 : (rd l0 x3_2) ≥ x3_2
      ·rw [if_pos c10] at H
       have c10b0 := decide_eq_true c10
       clear c10
       obtain rfl := Option.some.inj H
       have p186 : 0 ≤ (x3_2 : Int) := ofd
       have q186 : x3_2 < (l0.length : Int) := ofd
       obtain ⟨ad186, e186, hx186_0⟩ := Kd.at_int HR0.out x3_2 p186 q186
       cases e186
       replace p186 := eq_true p186
       replace q186 := eq_true q186
       have p187 : 0 ≤ (x3_2 : Int) := ofd
       have q187 : x3_2 < (l0.length : Int) := ofd
       obtain ⟨ad187, e187, hx187_0⟩ := Kd.at_int HR0.out x3_2 p187 q187
       obtain rfl : ad186 = ad187 := (by injection e187)
       replace p187 := eq_true p187
       replace q187 := eq_true q187
       go_wp2
       go_ret
       exact ⟨by first | rfl | (simp; done) | (simp [*]; done), by repeat (first | exact Drawn0.refl _ | apply Drawn0.step)⟩
      ·rw [if_neg c10] at H
       have c10b0 := decide_eq_false c10
       clear c10
       have H' := Aside0.mk H
       clear H
       have p186 : 0 ≤ (x3_2 : Int) := ofd
       have q186 : x3_2 < (l0.length : Int) := ofd
       obtain ⟨ad186, e186, hx186_0⟩ := Kd.at_int HR0.out x3_2 p186 q186
       cases e186
       replace p186 := eq_true p186
       replace q186 := eq_true q186
       have p187 : 0 ≤ (x3_2 : Int) := ofd
       have q187 : x3_2 < (l0.length : Int) := ofd
       obtain ⟨ad187, e187, hx187_0⟩ := Kd.at_int HR0.out x3_2 p187 q187
       obtain rfl : ad186 = ad187 := (by injection e187)
       replace p187 := eq_true p187
       replace q187 := eq_true q187
       go_wp2
       go_roundg k2
       case measure => have := HJ1.out; have := HK2.out; omega
       case rel => exact ⟨(wrap64 (x3_2 + 1)), eqd, H', ⟨by have := HJ1.out; have := HK2.out; omega⟩, by repeat (first | exact Drawn0.refl _ | apply Drawn0.step)⟩
noncomputable def Zag.J0 (x0 : List Int) (x13 : Bool) : Option (Bool) := lim fun k => Zag.j0 k x0 x13
theorem Zag.J0_lim (x0 : List Int) (x13 : Bool) : Lim (fun k => Zag.j0 k x0 x13) (Zag.J0 x0 x13) := Lim.of fun k => (Zag.mono_l k).1 x0 x13
noncomputable def Zag.L0 (x0 : List Int) (x3 : Int) : Option (Bool) := lim fun k => Zag.l0 k x0 x3
theorem Zag.L0_lim (x0 : List Int) (x3 : Int) : Lim (fun k => Zag.l0 k x0 x3) (Zag.L0 x0 x3) := Lim.of fun k => (Zag.mono_l k).2 x0 x3
noncomputable def Zag.F (l0 : List Int) : Option (Bool) := lim fun k => Zag.f k l0
theorem Zag.F_lim (l0 : List Int) : Lim (fun k => Zag.f k l0) (Zag.F l0) := Lim.of fun k => Zag.mono l0 k
theorem Zag.J0_eq (x0 : List Int) (x13 : Bool) : Zag.J0 x0 x13 = (if x13 = true then (some false) else (Zag.L0 x0 1)) :=
 Lim.step (f := fun k => Zag.j0 (k + 1) x0 x13) (Zag.J0_lim x0 x13) (fun _ => rfl) (by
  simp only [Zag.j0]
  repeat' (first | (with_reducible first | exact Lim.const _ | exact Zag.L0_lim _ _ | refine Lim.ite ?_ ?_ | refine Lim.bind ?_ (fun _ => ?_))))
theorem Zag.L0_eq (x0 : List Int) (x3 : Int) : Zag.L0 x0 x3 = (if x3 < (x0.length : Int) then (if 0 ≤ x3 then (if (rd x0 x3) < 0 then (some false) else (if (rd x0 x3) ≥ x3 then (some false) else (Zag.L0 x0 (wrap64 (x3 + 1))))) else (none)) else (some true)) :=
 Lim.step (f := fun k => Zag.l0 (k + 1) x0 x3) (Zag.L0_lim x0 x3) (fun _ => rfl) (by
  simp only [Zag.l0]
  repeat' (first | (with_reducible first | exact Lim.const _ | exact Zag.L0_lim _ _ | refine Lim.ite ?_ ?_ | refine Lim.bind ?_ (fun _ => ?_))))
theorem Zag.F_eq (l0 : List Int) : Zag.F l0 = ((Zcs.f (l0.length : Int)).bind fun t184 => (if t184 = true then (if 0 < (l0.length : Int) then (Zag.J0 l0 ((rd l0 0) != (-1))) else (none)) else (Zag.J0 l0 true))) :=
 Lim.unique (Zag.F_lim l0) (by
  unfold Zag.f
  repeat' (first | (with_reducible first | exact Lim.const _ | exact Zag.J0_lim _ _ | refine Lim.ite ?_ ?_ | refine Lim.bind ?_ (fun _ => ?_))))
def Zaq.l0 : Nat → List Int → Int → Int → Option (Int)
 | 0, _, _, _ => none
 | k + 1, x0, x3, x4 => if x4 < (x0.length : Int) then (if 0 ≤ x4 then (Zaq.l0 k x0 (mx x3 (rd x0 x4)) (wrap64 (x4 + 1))) else (none)) else (some x3)
def Zaq.f (k : Nat) (l0 : List Int) : Option (Int) := if (l0.length : Int) < 1 then (none) else (if 0 < (l0.length : Int) then (Zaq.l0 k l0 (rd l0 0) 1) else (none))
theorem Zaq.mono_l : ∀ k, (∀ y0 y1 y2, LeO (Zaq.l0 k y0 y1 y2) (Zaq.l0 (k + 1) y0 y1 y2))
 | 0 => fun _ _ _ r h => by simp [Zaq.l0] at h
 | k + 1 => by
  have ih0 := Zaq.mono_l k
  ·intro y0 y1 y2
   unfold Zaq.l0
   repeat' (first | (with_reducible first | exact ih0 _ _ _ | exact LeO.refl _ | exact LeO.none _ | refine LeO.ite ?_ ?_ | refine LeO.bind ?_ (fun _ => ?_)) | exact ih0 _ _ _ | exact LeO.none _ | refine LeO.ite ?_ ?_ | refine LeO.bind ?_ (fun _ => ?_))
theorem Zaq.mono : ∀ a0 k, LeO (Zaq.f k a0) (Zaq.f (k + 1) a0) := by
 intro a0 k
 have ih0 := Zaq.mono_l k
 unfold Zaq.f
 repeat' (first | (with_reducible first | exact ih0 _ _ _ | exact LeO.refl _ | exact LeO.none _ | refine LeO.ite ?_ ?_ | refine LeO.bind ?_ (fun _ => ?_)) | exact ih0 _ _ _ | exact LeO.none _ | refine LeO.ite ?_ ?_ | refine LeO.bind ?_ (fun _ => ?_))
theorem Zaq.calls (k : Nat) (A0 : Option Addr) (c0 : Nat) (l0 : List Int) (r : Int) (w : World) (hr0 : Kd.C (Kd.int .i64) w A0 l0.length l0) (hc0 : l0.length ≤ c0) (h : Zaq.f k l0 = some r) :
  Calls Try.prog 41 #[.slice A0 l0.length c0] w fun e w' => e = .returned (.int .i64 r) ∧ Below w.heap.size w w' := by
 have HR0 := Aside0.mk hr0
 have HC0 := Aside0.mk hc0
 clear hr0 hc0
 have HB := Aside0.mk (Below.refl w.heap.size w)
 have H := h
 unfold Zaq.f at H
 clear h
 by_cases c2 : (l0.length : Int) < 1
 ·rw [if_pos c2] at H
  exact absurd H (by simp)
 rw [if_neg c2] at H
 have c2b0 := decide_eq_false c2
 have c2b1 : decide (l0.length < 1) = false := decide_eq_false (by omega)
 clear c2
 obtain ⟨c3, H⟩ := in0_ H
 have c3b0 := decide_eq_true c3
 have c3b1 : decide (0 < l0.length) = true := decide_eq_true (by omega)
 clear c3
 have H' := Aside0.mk H
 clear H
 have p213 : 0 ≤ (0 : Int) := (by omega)
 have q213 : 0 < (l0.length : Int) := ofd
 obtain ⟨ad213, e213, hx213_0⟩ := Kd.at_int HR0.out 0 p213 q213
 cases e213
 have qi213 : (0 < l0.length) = True := eq_true (by omega)
 (try rw [show ((0 : Int)).toNat = 0 from rfl] at hx213_0)
 (try rw [Addr.add_zero'] at hx213_0)
 replace p213 := eq_true p213
 replace q213 := eq_true q213
 go_enter Try.func41, Try.ntmps41
 go_wp2
 go_loopg [3, 4] k (fun kq v3 v4 w' => ∃ (x3_1 : Int) (x4_1 : Int), v3 = .int .i64 x3_1 ∧ v4 = .int .i64 x4_1 ∧ Aside0 (Zaq.l0 kq l0 x3_1 x4_1 = some r) ∧ Aside0 (kq ≤ k) ∧ Aside0 (Below w.heap.size w w'))
 case atStart => exact ⟨(rd l0 0), (1), eqd, eqd, H', ⟨Nat.le_refl _⟩, ⟨atB HB⟩⟩
 case round =>
  clear H'
  try clear c2b0
  try clear c2b1
  try clear c3b0
  try clear c3b1
  try clear hx213_0
  try clear p213
  try clear q213
  obtain ⟨x3_1, x4_1, rfl, rfl, HA, HK1, HB⟩ := hrel
  cases gk with
  | zero => exact absurd HA.out (by simp [Zaq.l0])
  | succ k1 =>
   have H := HA.out
   clear HA
   simp only [Zaq.l0] at H
   by_cases c4 : x4_1 < (l0.length : Int)
   rotate_left
   ·rw [if_neg c4] at H
    have c4b0 := decide_eq_false c4
    clear c4
    obtain rfl := Option.some.inj H
    go_wp2
    go_ret
    exact ⟨eqr, atB HB⟩
   rw [if_pos c4] at H
   have c4b0 := decide_eq_true c4
   clear c4
   obtain ⟨c5b0, H⟩ := in_ H
   obtain ⟨ji6, hji6⟩ : ∃ j_ : Int, (mx x3_1 (rd l0 x4_1)) = j_ := ⟨_, rfl⟩
   replace H : (Zaq.l0 k1 l0 ji6 (wrap64 (x4_1 + 1))) = some r := by first | (rw [hji6] at H; exact H) | (simp only [hji6] at H ⊢; exact H)
   have hji6_ : (if x3_1 < (rd l0 x4_1) then (rd l0 x4_1) else x3_1) = ji6 := hji6
   have H' := Aside0.mk H
   clear H
   have p214 : 0 ≤ (x4_1 : Int) := ofd
   have q214 : x4_1 < (l0.length : Int) := ofd
   obtain ⟨ad214, e214, hx214_0⟩ := Kd.at_int HR0.out x4_1 p214 q214
   obtain rfl : ad213 = ad214 := (by injection e214)
   (try replace hx214_0 := (HB.out.cell (World.block_lt_of_cell? w _ hx214_0)).trans hx214_0)
   replace p214 := eq_true p214
   replace q214 := eq_true q214
   go_wp2
   first | go_roundg k1 | ((try subst hji6); go_roundg k1)
   case measure => have := HK1.out; omega
   case rel => exact ⟨(ji6), (wrap64 (x4_1 + 1)), (by first | rfl | (simp; done) | (simp only [← hji6] <;> (first | rfl | simp)) | (simp [*]; done)), eqd, H', ⟨by have := HK1.out; omega⟩, ⟨atB HB⟩⟩
noncomputable def Zaq.L0 (x0 : List Int) (x3 : Int) (x4 : Int) : Option (Int) := lim fun k => Zaq.l0 k x0 x3 x4
theorem Zaq.L0_lim (x0 : List Int) (x3 : Int) (x4 : Int) : Lim (fun k => Zaq.l0 k x0 x3 x4) (Zaq.L0 x0 x3 x4) := Lim.of fun k => (Zaq.mono_l k) x0 x3 x4
noncomputable def Zaq.F (l0 : List Int) : Option (Int) := lim fun k => Zaq.f k l0
theorem Zaq.F_lim (l0 : List Int) : Lim (fun k => Zaq.f k l0) (Zaq.F l0) := Lim.of fun k => Zaq.mono l0 k
theorem Zaq.L0_eq (x0 : List Int) (x3 : Int) (x4 : Int) : Zaq.L0 x0 x3 x4 = (if x4 < (x0.length : Int) then (if 0 ≤ x4 then (Zaq.L0 x0 (mx x3 (rd x0 x4)) (wrap64 (x4 + 1))) else (none)) else (some x3)) :=
 Lim.step (f := fun k => Zaq.l0 (k + 1) x0 x3 x4) (Zaq.L0_lim x0 x3 x4) (fun _ => rfl) (by
  simp only [Zaq.l0]
  repeat' (first | (with_reducible first | exact Lim.const _ | exact Zaq.L0_lim _ _ _ | refine Lim.ite ?_ ?_ | refine Lim.bind ?_ (fun _ => ?_))))
theorem Zaq.F_eq (l0 : List Int) : Zaq.F l0 = (if (l0.length : Int) < 1 then (none) else (if 0 < (l0.length : Int) then (Zaq.L0 l0 (rd l0 0) 1) else (none))) :=
 Lim.unique (Zaq.F_lim l0) (by
  unfold Zaq.f
  repeat' (first | (with_reducible first | exact Lim.const _ | exact Zaq.L0_lim _ _ _ | refine Lim.ite ?_ ?_ | refine Lim.bind ?_ (fun _ => ?_))))
mutual
def Zaf.l0 : Nat → List Int → List Int → Int → Option (Bool × Bool)
 | 0, _, _, _ => none
 | k + 1, x0, x4, x5 => if x5 < (x0.length : Int) then (if 0 ≤ x5 then (if x5 < (x4.length : Int) then ((some (x4.set (x5 : Int).toNat (wrap64 ((rd x4 x5) + 1)) : List Int)).bind fun y220 => (if 0 ≤ (rd x0 x5) then (if (rd x0 x5) < (x4.length : Int) then (Zaf.l0 k x0 (y220.set ((rd x0 x5) : Int).toNat (wrap64 ((rd y220 (rd x0 x5)) + 1))) (wrap64 (x5 + 1))) else (none)) else (none))) else (none)) else (none)) else (if 0 ≤ (x0.length : Int) then (if ((x0.length : Int) : Int).toNat ≤ 35184372088832 then (Zaf.l1 k x0 x4 (List.replicate ((x0.length : Int) : Int).toNat 0) 1) else (none)) else (none))
def Zaf.l1 : Nat → List Int → List Int → List Int → Int → Option (Bool × Bool)
 | 0, _, _, _, _ => none
 | k + 1, x0, x4, x6, x7 => if x7 < (x0.length : Int) then (if 0 ≤ x7 then (if x7 < (x4.length : Int) then (if (rd x4 x7) > 1 then (if 0 ≤ (rd x0 x7) then (if (rd x0 x7) < (x4.length : Int) then (if (rd x4 (rd x0 x7)) > 1 then (if x7 < (x6.length : Int) then ((some (x6.set (x7 : Int).toNat (wrap64 ((rd x6 x7) + 1)) : List Int)).bind fun y231 => (if (rd x0 x7) < (x6.length : Int) then (Zaf.l1 k x0 x4 (y231.set ((rd x0 x7) : Int).toNat (wrap64 ((rd y231 (rd x0 x7)) + 1))) (wrap64 (x7 + 1))) else (none))) else (none)) else (Zaf.l1 k x0 x4 x6 (wrap64 (x7 + 1)))) else (none)) else (none)) else (Zaf.l1 k x0 x4 x6 (wrap64 (x7 + 1)))) else (none)) else (none)) else ((Zaq.f k x6).bind fun t235 => (some (decide (t235 ≤ 2), true)))
end
def Zaf.f (k : Nat) (l0 : List Int) : Option (Bool × Bool) := (Zag.f k l0).bind fun t215 => (if t215 = true then (if 0 ≤ (l0.length : Int) then (if ((l0.length : Int) : Int).toNat ≤ 35184372088832 then (Zaf.l0 k l0 (List.replicate ((l0.length : Int) : Int).toNat 0) 1) else (none)) else (none)) else (some (false, false)))
theorem Zaf.mono_l : ∀ k, (∀ y0 y1 y2, LeO (Zaf.l0 k y0 y1 y2) (Zaf.l0 (k + 1) y0 y1 y2)) ∧ (∀ y0 y1 y2 y3, LeO (Zaf.l1 k y0 y1 y2 y3) (Zaf.l1 (k + 1) y0 y1 y2 y3))
 | 0 => ⟨fun _ _ _ r h => by simp [Zaf.l0] at h, fun _ _ _ _ r h => by simp [Zaf.l1] at h⟩
 | k + 1 => by
  obtain ⟨ih0, ih1⟩ := Zaf.mono_l k
  refine ⟨?_, ?_⟩
  ·intro y0 y1 y2
   unfold Zaf.l0
   repeat' (first | (with_reducible first | exact ih0 _ _ _ | exact ih1 _ _ _ _ | exact LeO.refl _ | exact LeO.none _ | refine LeO.ite ?_ ?_ | refine LeO.bind ?_ (fun _ => ?_)) | exact ih0 _ _ _ | exact ih1 _ _ _ _ | exact LeO.none _ | refine LeO.ite ?_ ?_ | refine LeO.bind ?_ (fun _ => ?_))
  ·intro y0 y1 y2 y3
   unfold Zaf.l1
   repeat' (first | (with_reducible first | exact ih1 _ _ _ _ | exact Zaq.mono _ _ | exact LeO.refl _ | exact LeO.none _ | refine LeO.ite ?_ ?_ | refine LeO.bind ?_ (fun _ => ?_)) | exact ih1 _ _ _ _ | exact Zaq.mono _ _ | exact LeO.none _ | refine LeO.ite ?_ ?_ | refine LeO.bind ?_ (fun _ => ?_))
theorem Zaf.mono : ∀ a0 k, LeO (Zaf.f k a0) (Zaf.f (k + 1) a0) := by
 intro a0 k
 obtain ⟨ih0, ih1⟩ := Zaf.mono_l k
 unfold Zaf.f
 repeat' (first | (with_reducible first | exact ih0 _ _ _ | exact Zag.mono _ _ | exact LeO.refl _ | exact LeO.none _ | refine LeO.ite ?_ ?_ | refine LeO.bind ?_ (fun _ => ?_)) | exact ih0 _ _ _ | exact Zag.mono _ _ | exact LeO.none _ | refine LeO.ite ?_ ?_ | refine LeO.bind ?_ (fun _ => ?_))
theorem Zaf.calls (k : Nat) (A0 : Option Addr) (c0 : Nat) (l0 : List Int) (r1 : Bool) (r2 : Bool) (w : World) (hr0 : Kd.C (Kd.int .i64) w A0 l0.length l0) (hc0 : l0.length ≤ c0) (h : Zaf.f k l0 = some (r1, r2)) :
  Calls Try.prog 12 #[.slice A0 l0.length c0] w fun e w' => e = .returned (.tuple #[.bool r1, .bool r2]) ∧ Below w.heap.size w w' := by
 have HR0 := Aside0.mk hr0
 have HC0 := Aside0.mk hc0
 clear hr0 hc0
 have HB := Aside0.mk (Below.refl w.heap.size w)
 have H := h
 unfold Zaf.f at H
 clear h
 obtain ⟨t215, A2, H⟩ := bs_ H
 (try dsimp only at H)
 by_cases c3 : t215 = true
 rotate_left
 ·replace c3 := Bool.eq_false_iff.mpr c3
  subst c3
  replace H := if_ H
  simp only [Option.some.injEq, Prod.mk.injEq] at H
  obtain ⟨rfl, rfl⟩ := H
  go_enter Try.func12, Try.ntmps12
  go_wp2_with (first | ((with_reducible refine gate_callee (f := 19) rfl ?_); refine goesA (some 9) Try.func19 #[.slice A0 l0.length c0] ?_; (with_reducible refine (Zag.calls k _ _ l0 false _ ?side1 ?side2 A2.out).mono ?_); (case side1 => repeat (first | exact HR0.out | (with_reducible refine Kd.C_alloc ?_ _) | (with_reducible refine Kd.C_drewN ?_ _) | (with_reducible refine Kd.C_drew ?_))); (case side2 => exact HC0.out); rintro e w' ⟨rfl, ⟨nd, rfl⟩⟩; refine ⟨_, rfl, ?_⟩))
  go_ret2
  exact ⟨eqr, atB HB⟩
 subst c3
 replace H := it_ H
 obtain ⟨c4b0, c4b1, H⟩ := in2_ H
 obtain ⟨c5b0, c5b1, H⟩ := in2_ H
 obtain ⟨y216, hy216⟩ : ∃ y_ : List Int, y_ = (List.replicate ((l0.length : Int) : Int).toNat 0) := ⟨_, rfl⟩
 replace H : (Zaf.l0 k l0 y216 1) = some (r1, r2) := by first | (rw [hy216]; with_reducible exact H) | (have H2_ := (Option.bind_some _ _).symm.trans H; rw [hy216]; with_reducible exact H2_) | (have H2_ := (Option.bind_some _ _).symm.trans H; with_reducible exact H2_) | with_reducible exact H | (rw [hy216]; exact H) | exact H
 have Ny216 := Aside0.mk hy216
 clear hy216
 have H' := Aside0.mk H
 clear H
 go_enter Try.func12, Try.ntmps12
 go_wp2_with (first | ((with_reducible refine gate_callee (f := 19) rfl ?_); refine goesA (some 9) Try.func19 #[.slice A0 l0.length c0] ?_; (with_reducible refine (Zag.calls k _ _ l0 true _ ?side1 ?side2 A2.out).mono ?_); (case side1 => repeat (first | exact HR0.out | (with_reducible refine Kd.C_alloc ?_ _) | (with_reducible refine Kd.C_drewN ?_ _) | (with_reducible refine Kd.C_drew ?_))); (case side2 => exact HC0.out); rintro e w' ⟨rfl, ⟨nd, rfl⟩⟩; refine ⟨_, rfl, ?_⟩) | ((with_reducible refine gate_dst (N := 13) rfl ?_); refine Kd.R_make (Kd.int .i64) _ 3 rfl (N := 13) rfl 24 _ _ rfl (l0.length : Int) rfl rfl Try.underlying24 (.int .i64 0) 8 info3 rfl (by decide) (by omega) 0 (ok := fun _ => True) (okp := fun _ => True) rfl (fun _ hk => hk) trivial (of_decide_eq_true (by first | (with_reducible assumption) | assumption)) (Nat.le_trans (Nat.mul_le_mul_right _ (of_decide_eq_true (by first | (with_reducible assumption) | assumption) : (l0.length : Int).toNat ≤ 35184372088832)) (by omega)) (Below.refl _ _) (Nat.le_refl _) ?_; intro v217 w6 ho7 hb hg_ hnew_; clear hg_ hnew_; (first | rw [← Ny216.out] at ho7 | (simp only [Int.reduceToNat] at ho7; rw [← Ny216.out] at ho7)); have HO218 := lowR ho7 HB; replace HB := upB HB hb; clear hb ho7))
 go_loopg [5] k (fun kq v5 w' => ∃ (x4_1 : List Int) (x5_1 : Int), v5 = .int .i64 x5_1 ∧ Aside0 (Zaf.l0 kq l0 x4_1 x5_1 = some (r1, r2)) ∧ Aside0 (kq ≤ k) ∧ Aside0 (Kd.R (Kd.int .i64) 3 w' w.heap.size (fun _ => True) v217 x4_1) ∧ Aside0 (Below w.heap.size w w'))
 case atStart => exact ⟨(y216), (1), eqd, H', ⟨Nat.le_refl _⟩, ⟨atR HO218⟩, ⟨atB HB⟩⟩
 case round =>
  clear H'
  try clear c3
  try clear c4b0
  try clear c4b1
  try clear c5b0
  try clear c5b1
  obtain ⟨x4_1, x5_1, rfl, HA, HK1, HO_4, HB⟩ := hrel
  cases gk with
  | zero => exact absurd HA.out (by simp [Zaf.l0])
  | succ k1 =>
   have H := HA.out
   clear HA
   simp only [Zaf.l0] at H
   by_cases c8 : x5_1 < (l0.length : Int)
   ·rw [if_pos c8] at H
    have c8b0 := decide_eq_true c8
    clear c8
    obtain ⟨c9b0, H⟩ := in_ H
    obtain ⟨c10b0, H⟩ := in_ H
    obtain ⟨y220, hy220⟩ : ∃ y_ : List Int, y_ = (x4_1.set (x5_1 : Int).toNat (wrap64 ((rd x4_1 x5_1) + 1))) := ⟨_, rfl⟩
    replace H : (if 0 ≤ (rd l0 x5_1) then (if (rd l0 x5_1) < (x4_1.length : Int) then (Zaf.l0 k1 l0 (y220.set ((rd l0 x5_1) : Int).toNat (wrap64 ((rd y220 (rd l0 x5_1)) + 1))) (wrap64 (x5_1 + 1))) else (none)) else (none)) = some (r1, r2) := by first | (rw [hy220]; with_reducible exact H) | (have H2_ := (Option.bind_some _ _).symm.trans H; rw [hy220]; with_reducible exact H2_) | (have H2_ := (Option.bind_some _ _).symm.trans H; with_reducible exact H2_) | with_reducible exact H | (rw [hy220]; exact H) | exact H
    have Ny220 := Aside0.mk hy220
    clear hy220
    obtain ⟨c12b0, H⟩ := in_ H
    obtain ⟨c13b0, H⟩ := in_ H
    obtain ⟨y223, hy223⟩ : ∃ y_ : List Int, y_ = (y220.set ((rd l0 x5_1) : Int).toNat (wrap64 ((rd y220 (rd l0 x5_1)) + 1))) := ⟨_, rfl⟩
    replace H : (Zaf.l0 k1 l0 y223 (wrap64 (x5_1 + 1))) = some (r1, r2) := by first | (rw [hy223]; with_reducible exact H) | (have H2_ := (Option.bind_some _ _).symm.trans H; rw [hy223]; with_reducible exact H2_) | (have H2_ := (Option.bind_some _ _).symm.trans H; with_reducible exact H2_) | with_reducible exact H | (rw [hy223]; exact H) | exact H
    have Ny223 := Aside0.mk hy223
    clear hy223
    have H' := Aside0.mk H
    clear H
    obtain ⟨Ao15, co15, eo15⟩ := Kd.R_slice HO_4.out
    subst eo15
    have p219 : 0 ≤ (x5_1 : Int) := ofd
    have q219 : x5_1 < (x4_1.length : Int) := ofd
    obtain ⟨ad219, e219, hx219_0⟩ := Kd.at_int (Kd.R_reads' HO_4.out).2.2 x5_1 p219 q219
    cases e219
    replace p219 := eq_true p219
    replace q219 := eq_true q219
    have p11 : 0 ≤ (x5_1 : Int) := ofd
    have q11 : (x5_1 : Int) < ((x4_1.length : Int) : Int) := ofd
    obtain ⟨go11, co11, eo11, gb11, gl11, cl11, HG11⟩ := Kd.R_form HO_4.out (by omega)
    (first | cases eo11 | (injection eo11 with ea_ en_ ec_; (first | subst ea_ | (injection ea_ with ea_; subst ea_)); subst ec_; clear en_))
    have GB11 := Aside0.mk gb11
    have GG11 := Aside0.mk HG11
    clear gb11 gl11 HG11
    (first | simp only [add_plain] at hx219_0 | skip)
    obtain ⟨hx11_0, hf11_0⟩ := Kd.R_celln 0 HO_4.out (x5_1 : Int) p11 q11
    replace p11 := eq_true p11
    replace q11 := eq_true q11
    have HP16 := Kd.R_putg HO_4.out (x5_1 : Int) (wrap64 ((rd x4_1 x5_1) + 1))
    go_wp2_with (first | ((with_reducible refine gate_store (t := 3) (p := 25) rfl ?_); refine store_event (t := 3) (p := 25) (v := ?vo_w17) (w1 := (wr.setCell ⟨go11, (x5_1 : Int).toNat, none⟩ (.int .i64 (wrap64 ((rd x4_1 x5_1) + 1))))) ?hg ?ho ?hn ?hr ?_; (case ho => rfl); (case hg => rfl); (case hn => rfl); (case hr => first | (go_simp; done) | (go_simp; rfl)); intro w17 hw; have hg : wr.grownBy w17 (some go11) := (by rw [hw]; exact HP16.2); have hp_ : Kd.R (Kd.int .i64) 3 w17 w.heap.size (fun _ => True) (.slice (some ⟨go11, 0, none⟩) x4_1.length co15) y220 := (by rw [hw, Ny220.out]; exact HP16.1); clear HP16; replace HO_4 := Aside0.mk (hp_); replace HB := Aside0.mk ((by rw [hw]; exact below_set (HB.out) GB11.out : Below w.heap.size w w17)); clear hg hw hp_; have p221 : 0 ≤ (x5_1 : Int) := ofd; have q221 : x5_1 < (l0.length : Int) := ofd; obtain ⟨ad221, e221, hx221_0⟩ := Kd.at_int HR0.out x5_1 p221 q221; cases e221; replace hx221_0 := (HB.out.cell (World.block_lt_of_cell? w _ hx221_0)).trans hx221_0; replace p221 := eq_true p221; replace q221 := eq_true q221; have p222 : 0 ≤ ((rd l0 x5_1) : Int) := ofd; have q222 : (rd l0 x5_1) < (y220.length : Int) := (by have h_ : ((rd l0 x5_1) : Int) < ((x4_1.length : Int) : Int) := ofd; first | (have e_ := (Kd.R_reads' HO_4.out).1; omega) | simpa only [Ny220.out, List.length_set] using h_); have ql222 : (((rd l0 x5_1) : Int) < ((x4_1.length : Int) : Int)) = True := eq_true (of_decide_eq_true (by first | (with_reducible assumption) | assumption)); obtain ⟨ad222, e222, hx222_0⟩ := Kd.at_int (Kd.R_reads' HO_4.out).2.2 (rd l0 x5_1) p222 q222; obtain rfl : (⟨go11, 0, none⟩ : Addr) = ad222 := (by injection e222); (first | simp only [add_plain] at hx222_0 | simp only [add_at] at hx222_0 | simp only [Addr.add, Nat.zero_add] at hx222_0 | skip); replace p222 := eq_true p222; replace q222 := eq_true q222; have p14 : 0 ≤ ((rd l0 x5_1) : Int) := ofd; have q14 : ((rd l0 x5_1) : Int) < ((x4_1.length : Int) : Int) := ofd; obtain ⟨hx14_0, hf14_0⟩ := Kd.R_celln 0 HO_4.out ((rd l0 x5_1) : Int) p14 q14; replace p14 := eq_true p14; replace q14 := eq_true q14; obtain ⟨hy18_, hz18_⟩ := Kd.R_celln 0 HO_4.out ((rd l0 x5_1) : Int) (of_decide_eq_true (by first | (with_reducible assumption) | assumption)) (of_decide_eq_true (by first | (with_reducible assumption) | assumption)); have HP18 := Kd.R_putg HO_4.out ((rd l0 x5_1) : Int) (wrap64 ((rd y220 (rd l0 x5_1)) + 1))) | ((with_reducible refine gate_store (t := 3) (p := 34) rfl ?_); refine store_event (t := 3) (p := 34) (v := ?vo_w19) (w1 := (w17.setCell ⟨go11, ((rd l0 x5_1) : Int).toNat, none⟩ (.int .i64 (wrap64 ((rd y220 (rd l0 x5_1)) + 1))))) ?hg ?ho ?hn ?hr ?_; (case ho => rfl); (case hg => rfl); (case hn => rfl); (case hr => first | (go_simp; done) | (go_simp; rfl)); intro w19 hw; have hg : w17.grownBy w19 (some go11) := (by rw [hw]; exact HP18.2); have hp_ : Kd.R (Kd.int .i64) 3 w19 w.heap.size (fun _ => True) (.slice (some ⟨go11, 0, none⟩) x4_1.length co15) y223 := (by rw [hw, Ny223.out]; exact HP18.1); clear HP18; replace HO_4 := Aside0.mk (hp_); replace HB := Aside0.mk ((by rw [hw]; exact below_set (HB.out) GB11.out : Below w.heap.size w w19)); clear hg hw hp_))
    go_roundg k1
    case measure => have := HK1.out; omega
    case rel => exact ⟨(y223), (wrap64 (x5_1 + 1)), eqd, H', ⟨by have := HK1.out; omega⟩, ⟨atR HO_4⟩, ⟨atB HB⟩⟩
   ·rw [if_neg c8] at H
    have c8b0 := decide_eq_false c8
    clear c8
    obtain ⟨c20b0, c20b1, H⟩ := in2_ H
    obtain ⟨c21b0, c21b1, H⟩ := in2_ H
    obtain ⟨y224, hy224⟩ : ∃ y_ : List Int, y_ = (List.replicate ((l0.length : Int) : Int).toNat 0) := ⟨_, rfl⟩
    replace H : (Zaf.l1 k1 l0 x4_1 y224 1) = some (r1, r2) := by first | (rw [hy224]; with_reducible exact H) | (have H2_ := (Option.bind_some _ _).symm.trans H; rw [hy224]; with_reducible exact H2_) | (have H2_ := (Option.bind_some _ _).symm.trans H; with_reducible exact H2_) | with_reducible exact H | (rw [hy224]; exact H) | exact H
    have Ny224 := Aside0.mk hy224
    clear hy224
    have H' := Aside0.mk H
    clear H
    go_wp2_with (first | ((with_reducible refine gate_dst (N := 37) rfl ?_); refine Kd.R_make (Kd.int .i64) _ 3 rfl (N := 37) rfl 24 _ _ rfl (l0.length : Int) rfl rfl Try.underlying24 (.int .i64 0) 8 info3 rfl (by decide) (by omega) 0 (ok := fun _ => True) (okp := fun _ => True) rfl (fun _ hk => hk) trivial (of_decide_eq_true (by first | (with_reducible assumption) | assumption)) (Nat.le_trans (Nat.mul_le_mul_right _ (of_decide_eq_true (by first | (with_reducible assumption) | assumption) : (l0.length : Int).toNat ≤ 35184372088832)) (by omega)) (Below.refl _ _) (Nat.le_refl _) ?_; intro v225 w22 ho23 hb hg_ hnew_; clear hg_ hnew_; (first | rw [← Ny224.out] at ho23 | (simp only [Int.reduceToNat] at ho23; rw [← Ny224.out] at ho23)); have HO226 := Aside0.mk (Kd.R_lower (Kd.R_new' ho23 (ltR HO_4)) (szB HB)); replace HO_4 := eldRR HO_4 ho23 hb; replace HB := upB HB hb; clear hb ho23))
    go_loopg [7] k1 (fun kq v7 w' => ∃ (x6_2 : List Int) (x7_2 : Int), v7 = .int .i64 x7_2 ∧ Aside0 (Zaf.l1 kq l0 x4_1 x6_2 x7_2 = some (r1, r2)) ∧ Aside0 (kq ≤ k1) ∧ Aside0 (Kd.R (Kd.int .i64) 3 w' w.heap.size (fun k_ => some k_ ≠ (v225 : Value).ownBlock) v217 x4_1) ∧ Aside0 (Kd.R (Kd.int .i64) 3 w' w.heap.size (fun k_ => some k_ ≠ (v217 : Value).ownBlock) v225 x6_2) ∧ Aside0 (Below w.heap.size w w'))
    case atStart => exact ⟨(y224), (1), eqd, H', ⟨Nat.le_refl _⟩, ⟨by (with_reducible repeat (first | apply Kd.R_alloc | apply Kd.R_drewN | apply Kd.R_drew)); exact Kd.R_mono HO_4.out (fun _ hk => hk.2)⟩, ⟨by (with_reducible repeat (first | apply Kd.R_alloc | apply Kd.R_drewN | apply Kd.R_drew)); exact Kd.R_mono HO226.out (fun _ hk => hk.2)⟩, ⟨atB HB⟩⟩
    case round =>
     clear H'
     try clear c8b0
     try clear c20b0
     try clear c20b1
     try clear c21b0
     try clear c21b1
     obtain ⟨x6_2, x7_2, rfl, HA, HK2, HO_4, HO_6, HB⟩ := hrel
     cases gk with
     | zero => exact absurd HA.out (by simp [Zaf.l1])
     | succ k2 =>
      have H := HA.out
      clear HA
      simp only [Zaf.l1] at H
      by_cases c24 : x7_2 < (l0.length : Int)
      rotate_left
      ·rw [if_neg c24] at H
       have c24b0 := decide_eq_false c24
       clear c24
       obtain ⟨t235, A43, H⟩ := bs_ H
       (try dsimp only at H)
       simp only [Option.some.injEq, Prod.mk.injEq] at H
       obtain ⟨rfl, rfl⟩ := H
       obtain ⟨Ao44, co44, eo44⟩ := Kd.R_slice HO_6.out
       subst eo44
       go_wp2_with (first | ((with_reducible refine gate_callee (f := 41) rfl ?_); refine goesA (some 75) Try.func41 #[.slice Ao44 x6_2.length co44] ?_; (with_reducible refine (Zaq.calls k2 _ _ x6_2 t235 _ ?side1 ?side2 A43.out).mono ?_); (case side1 => exact atRC HO_6); (case side2 => exact (Kd.R_reads' HO_6.out).2.1); rintro e w45 ⟨rfl, hb⟩; refine ⟨_, rfl, ?_⟩; replace HO_4 := upR HO_4 hb; replace HO_6 := upR HO_6 hb; replace HB := upB HB hb))
       go_ret2
       exact ⟨eqr, atB HB⟩
      rw [if_pos c24] at H
      have c24b0 := decide_eq_true c24
      clear c24
      obtain ⟨c25b0, H⟩ := in_ H
      obtain ⟨c26b0, H⟩ := in_ H
      by_cases c27 : (rd x4_1 x7_2) > 1
      ·rw [if_pos c27] at H
       have c27b0 := decide_eq_true c27
       clear c27
       obtain ⟨c28b0, H⟩ := in_ H
       obtain ⟨c29b0, H⟩ := in_ H
       by_cases c30 : (rd x4_1 (rd l0 x7_2)) > 1
       ·rw [if_pos c30] at H
        have c30b0 := decide_eq_true c30
        clear c30
        obtain ⟨c31b0, H⟩ := in_ H
        obtain ⟨y231, hy231⟩ : ∃ y_ : List Int, y_ = (x6_2.set (x7_2 : Int).toNat (wrap64 ((rd x6_2 x7_2) + 1))) := ⟨_, rfl⟩
        replace H : (if (rd l0 x7_2) < (x6_2.length : Int) then (Zaf.l1 k2 l0 x4_1 (y231.set ((rd l0 x7_2) : Int).toNat (wrap64 ((rd y231 (rd l0 x7_2)) + 1))) (wrap64 (x7_2 + 1))) else (none)) = some (r1, r2) := by first | (rw [hy231]; with_reducible exact H) | (have H2_ := (Option.bind_some _ _).symm.trans H; rw [hy231]; with_reducible exact H2_) | (have H2_ := (Option.bind_some _ _).symm.trans H; with_reducible exact H2_) | with_reducible exact H | (rw [hy231]; exact H) | exact H
        have Ny231 := Aside0.mk hy231
        clear hy231
        obtain ⟨c33b0, H⟩ := in_ H
        obtain ⟨y234, hy234⟩ : ∃ y_ : List Int, y_ = (y231.set ((rd l0 x7_2) : Int).toNat (wrap64 ((rd y231 (rd l0 x7_2)) + 1))) := ⟨_, rfl⟩
        replace H : (Zaf.l1 k2 l0 x4_1 y234 (wrap64 (x7_2 + 1))) = some (r1, r2) := by first | (rw [hy234]; with_reducible exact H) | (have H2_ := (Option.bind_some _ _).symm.trans H; rw [hy234]; with_reducible exact H2_) | (have H2_ := (Option.bind_some _ _).symm.trans H; with_reducible exact H2_) | with_reducible exact H | (rw [hy234]; exact H) | exact H
        have Ny234 := Aside0.mk hy234
        clear hy234
        have H' := Aside0.mk H
        clear H
        obtain ⟨Ao35, co35, eo35⟩ := Kd.R_slice HO_4.out
        subst eo35
        have p227 : 0 ≤ (x7_2 : Int) := ofd
        have q227 : x7_2 < (x4_1.length : Int) := ofd
        obtain ⟨ad227, e227, hx227_0⟩ := Kd.at_int (Kd.R_reads' HO_4.out).2.2 x7_2 p227 q227
        cases e227
        replace p227 := eq_true p227
        replace q227 := eq_true q227
        have p228 : 0 ≤ (x7_2 : Int) := ofd
        have q228 : x7_2 < (l0.length : Int) := ofd
        obtain ⟨ad228, e228, hx228_0⟩ := Kd.at_int HR0.out x7_2 p228 q228
        cases e228
        (try replace hx228_0 := (HB.out.cell (World.block_lt_of_cell? w _ hx228_0)).trans hx228_0)
        replace p228 := eq_true p228
        replace q228 := eq_true q228
        have p229 : 0 ≤ ((rd l0 x7_2) : Int) := ofd
        have q229 : (rd l0 x7_2) < (x4_1.length : Int) := ofd
        obtain ⟨ad229, e229, hx229_0⟩ := Kd.at_int (Kd.R_reads' HO_4.out).2.2 (rd l0 x7_2) p229 q229
        obtain rfl : ad227 = ad229 := (by injection e229)
        replace p229 := eq_true p229
        replace q229 := eq_true q229
        obtain ⟨Ao36, co36, eo36⟩ := Kd.R_slice HO_6.out
        subst eo36
        have p230 : 0 ≤ (x7_2 : Int) := ofd
        have q230 : x7_2 < (x6_2.length : Int) := ofd
        obtain ⟨ad230, e230, hx230_0⟩ := Kd.at_int (Kd.R_reads' HO_6.out).2.2 x7_2 p230 q230
        cases e230
        replace p230 := eq_true p230
        replace q230 := eq_true q230
        have p32 : 0 ≤ (x7_2 : Int) := ofd
        have q32 : (x7_2 : Int) < ((x6_2.length : Int) : Int) := ofd
        obtain ⟨go32, co32, eo32, gb32, gl32, cl32, HG32⟩ := Kd.R_form HO_6.out (by omega)
        (first | cases eo32 | (injection eo32 with ea_ en_ ec_; (first | subst ea_ | (injection ea_ with ea_; subst ea_)); subst ec_; clear en_))
        have GB32 := Aside0.mk gb32
        have GG32 := Aside0.mk HG32
        clear gb32 gl32 HG32
        (first | simp only [add_plain] at hx230_0 | skip)
        obtain ⟨hx32_0, hf32_0⟩ := Kd.R_celln 0 HO_6.out (x7_2 : Int) p32 q32
        replace p32 := eq_true p32
        replace q32 := eq_true q32
        have HP37 := Kd.R_putg HO_6.out (x7_2 : Int) (wrap64 ((rd x6_2 x7_2) + 1))
        go_wp2_with (first | ((with_reducible refine gate_store (t := 3) (p := 64) rfl ?_); refine store_event (t := 3) (p := 64) (v := ?vo_w38) (w1 := (wr.setCell ⟨go32, (x7_2 : Int).toNat, none⟩ (.int .i64 (wrap64 ((rd x6_2 x7_2) + 1))))) ?hg ?ho ?hn ?hr ?_; (case ho => rfl); (case hg => rfl); (case hn => rfl); (case hr => first | (go_simp; done) | (go_simp; rfl)); intro w38 hw; have hg : wr.grownBy w38 (some go32) := (by rw [hw]; exact HP37.2); have hp_ : Kd.R (Kd.int .i64) 3 w38 w.heap.size (fun k_ => some k_ ≠ (.slice (some ad227) x4_1.length co35 : Value).ownBlock) (.slice (some ⟨go32, 0, none⟩) x6_2.length co36) y231 := (by rw [hw, Ny231.out]; exact HP37.1); clear HP37; replace HO_4 := Aside0.mk (Kd.R_after (v := (.slice (some ⟨go32, 0, none⟩) x6_2.length co36)) (v1 := (.slice (some ⟨go32, 0, none⟩) x6_2.length co36)) (ok := (fun _ => True)) (by (with_reducible repeat (first | apply Kd.R_alloc | apply Kd.R_drewN | apply Kd.R_drew)); exact Kd.R_mono HO_4.out (fun _ hk => ⟨trivial, hk⟩)) hg (.inl rfl)); replace HO_6 := Aside0.mk (hp_); replace HB := Aside0.mk ((by rw [hw]; exact below_set (HB.out) GB32.out : Below w.heap.size w w38)); clear hg hw hp_; have p232 : 0 ≤ (x7_2 : Int) := ofd; have q232 : x7_2 < (l0.length : Int) := ofd; obtain ⟨ad232, e232, hx232_0⟩ := Kd.at_int HR0.out x7_2 p232 q232; obtain rfl : ad228 = ad232 := (by injection e232); replace hx232_0 := (HB.out.cell (World.block_lt_of_cell? w _ hx232_0)).trans hx232_0; replace p232 := eq_true p232; replace q232 := eq_true q232; have p233 : 0 ≤ ((rd l0 x7_2) : Int) := ofd; have q233 : (rd l0 x7_2) < (y231.length : Int) := (by have h_ : ((rd l0 x7_2) : Int) < ((x6_2.length : Int) : Int) := ofd; first | (have e_ := (Kd.R_reads' HO_6.out).1; omega) | simpa only [Ny231.out, List.length_set] using h_); have ql233 : (((rd l0 x7_2) : Int) < ((x6_2.length : Int) : Int)) = True := eq_true (of_decide_eq_true (by first | (with_reducible assumption) | assumption)); obtain ⟨ad233, e233, hx233_0⟩ := Kd.at_int (Kd.R_reads' HO_6.out).2.2 (rd l0 x7_2) p233 q233; obtain rfl : (⟨go32, 0, none⟩ : Addr) = ad233 := (by injection e233); (first | simp only [add_plain] at hx233_0 | simp only [add_at] at hx233_0 | simp only [Addr.add, Nat.zero_add] at hx233_0 | skip); replace p233 := eq_true p233; replace q233 := eq_true q233; have p34 : 0 ≤ ((rd l0 x7_2) : Int) := ofd; have q34 : ((rd l0 x7_2) : Int) < ((x6_2.length : Int) : Int) := ofd; obtain ⟨hx34_0, hf34_0⟩ := Kd.R_celln 0 HO_6.out ((rd l0 x7_2) : Int) p34 q34; replace p34 := eq_true p34; replace q34 := eq_true q34; obtain ⟨hy39_, hz39_⟩ := Kd.R_celln 0 HO_6.out ((rd l0 x7_2) : Int) (of_decide_eq_true (by first | (with_reducible assumption) | assumption)) (of_decide_eq_true (by first | (with_reducible assumption) | assumption)); have HP39 := Kd.R_putg HO_6.out ((rd l0 x7_2) : Int) (wrap64 ((rd y231 (rd l0 x7_2)) + 1))) | ((with_reducible refine gate_store (t := 3) (p := 73) rfl ?_); refine store_event (t := 3) (p := 73) (v := ?vo_w40) (w1 := (w38.setCell ⟨go32, ((rd l0 x7_2) : Int).toNat, none⟩ (.int .i64 (wrap64 ((rd y231 (rd l0 x7_2)) + 1))))) ?hg ?ho ?hn ?hr ?_; (case ho => rfl); (case hg => rfl); (case hn => rfl); (case hr => first | (go_simp; done) | (go_simp; rfl)); intro w40 hw; have hg : w38.grownBy w40 (some go32) := (by rw [hw]; exact HP39.2); have hp_ : Kd.R (Kd.int .i64) 3 w40 w.heap.size (fun k_ => some k_ ≠ (.slice (some ad227) x4_1.length co35 : Value).ownBlock) (.slice (some ⟨go32, 0, none⟩) x6_2.length co36) y234 := (by rw [hw, Ny234.out]; exact HP39.1); clear HP39; replace HO_4 := Aside0.mk (Kd.R_after (v := (.slice (some ⟨go32, 0, none⟩) x6_2.length co36)) (v1 := (.slice (some ⟨go32, 0, none⟩) x6_2.length co36)) (ok := (fun _ => True)) (atR HO_4) hg (.inl rfl)); replace HO_6 := Aside0.mk (hp_); replace HB := Aside0.mk ((by rw [hw]; exact below_set (HB.out) GB32.out : Below w.heap.size w w40)); clear hg hw hp_))
        go_roundg k2
        case measure => have := HK1.out; have := HK2.out; omega
        case rel => exact ⟨(y234), (wrap64 (x7_2 + 1)), eqd, H', ⟨by have := HK1.out; have := HK2.out; omega⟩, ⟨by (with_reducible repeat (first | apply Kd.R_alloc | apply Kd.R_drewN | apply Kd.R_drew)); exact Kd.R_mono HO_4.out (fun _ hk => hk.2)⟩, ⟨atR HO_6⟩, ⟨atB HB⟩⟩
       ·rw [if_neg c30] at H
        have c30b0 := decide_eq_false c30
        clear c30
        have H' := Aside0.mk H
        clear H
        obtain ⟨Ao41, co41, eo41⟩ := Kd.R_slice HO_4.out
        subst eo41
        have p227 : 0 ≤ (x7_2 : Int) := ofd
        have q227 : x7_2 < (x4_1.length : Int) := ofd
        obtain ⟨ad227, e227, hx227_0⟩ := Kd.at_int (Kd.R_reads' HO_4.out).2.2 x7_2 p227 q227
        cases e227
        replace p227 := eq_true p227
        replace q227 := eq_true q227
        have p228 : 0 ≤ (x7_2 : Int) := ofd
        have q228 : x7_2 < (l0.length : Int) := ofd
        obtain ⟨ad228, e228, hx228_0⟩ := Kd.at_int HR0.out x7_2 p228 q228
        cases e228
        (try replace hx228_0 := (HB.out.cell (World.block_lt_of_cell? w _ hx228_0)).trans hx228_0)
        replace p228 := eq_true p228
        replace q228 := eq_true q228
        have p229 : 0 ≤ ((rd l0 x7_2) : Int) := ofd
        have q229 : (rd l0 x7_2) < (x4_1.length : Int) := ofd
        obtain ⟨ad229, e229, hx229_0⟩ := Kd.at_int (Kd.R_reads' HO_4.out).2.2 (rd l0 x7_2) p229 q229
        obtain rfl : ad227 = ad229 := (by injection e229)
        replace p229 := eq_true p229
        replace q229 := eq_true q229
        go_wp2
        go_roundg k2
        case measure => have := HK1.out; have := HK2.out; omega
        case rel => exact ⟨(x6_2), (wrap64 (x7_2 + 1)), eqd, H', ⟨by have := HK1.out; have := HK2.out; omega⟩, ⟨atR HO_4⟩, ⟨atR HO_6⟩, ⟨atB HB⟩⟩
      ·rw [if_neg c27] at H
       have c27b0 := decide_eq_false c27
       clear c27
       have H' := Aside0.mk H
       clear H
       obtain ⟨Ao42, co42, eo42⟩ := Kd.R_slice HO_4.out
       subst eo42
       have p227 : 0 ≤ (x7_2 : Int) := ofd
       have q227 : x7_2 < (x4_1.length : Int) := ofd
       obtain ⟨ad227, e227, hx227_0⟩ := Kd.at_int (Kd.R_reads' HO_4.out).2.2 x7_2 p227 q227
       cases e227
       replace p227 := eq_true p227
       replace q227 := eq_true q227
       go_wp2
       go_roundg k2
       case measure => have := HK1.out; have := HK2.out; omega
       case rel => exact ⟨(x6_2), (wrap64 (x7_2 + 1)), eqd, H', ⟨by have := HK1.out; have := HK2.out; omega⟩, ⟨atR HO_4⟩, ⟨atR HO_6⟩, ⟨atB HB⟩⟩
noncomputable def Zaf.L0 (x0 : List Int) (x4 : List Int) (x5 : Int) : Option (Bool × Bool) := lim fun k => Zaf.l0 k x0 x4 x5
theorem Zaf.L0_lim (x0 : List Int) (x4 : List Int) (x5 : Int) : Lim (fun k => Zaf.l0 k x0 x4 x5) (Zaf.L0 x0 x4 x5) := Lim.of fun k => (Zaf.mono_l k).1 x0 x4 x5
noncomputable def Zaf.L1 (x0 : List Int) (x4 : List Int) (x6 : List Int) (x7 : Int) : Option (Bool × Bool) := lim fun k => Zaf.l1 k x0 x4 x6 x7
theorem Zaf.L1_lim (x0 : List Int) (x4 : List Int) (x6 : List Int) (x7 : Int) : Lim (fun k => Zaf.l1 k x0 x4 x6 x7) (Zaf.L1 x0 x4 x6 x7) := Lim.of fun k => (Zaf.mono_l k).2 x0 x4 x6 x7
noncomputable def Zaf.F (l0 : List Int) : Option (Bool × Bool) := lim fun k => Zaf.f k l0
theorem Zaf.F_lim (l0 : List Int) : Lim (fun k => Zaf.f k l0) (Zaf.F l0) := Lim.of fun k => Zaf.mono l0 k
theorem Zaf.L0_eq (x0 : List Int) (x4 : List Int) (x5 : Int) : Zaf.L0 x0 x4 x5 = (if x5 < (x0.length : Int) then (if 0 ≤ x5 then (if x5 < (x4.length : Int) then ((some (x4.set (x5 : Int).toNat (wrap64 ((rd x4 x5) + 1)) : List Int)).bind fun y220 => (if 0 ≤ (rd x0 x5) then (if (rd x0 x5) < (x4.length : Int) then (Zaf.L0 x0 (y220.set ((rd x0 x5) : Int).toNat (wrap64 ((rd y220 (rd x0 x5)) + 1))) (wrap64 (x5 + 1))) else (none)) else (none))) else (none)) else (none)) else (if 0 ≤ (x0.length : Int) then (if ((x0.length : Int) : Int).toNat ≤ 35184372088832 then (Zaf.L1 x0 x4 (List.replicate ((x0.length : Int) : Int).toNat 0) 1) else (none)) else (none))) :=
 Lim.step (f := fun k => Zaf.l0 (k + 1) x0 x4 x5) (Zaf.L0_lim x0 x4 x5) (fun _ => rfl) (by
  simp only [Zaf.l0]
  repeat' (first | (with_reducible first | exact Lim.const _ | exact Zaf.L0_lim _ _ _ | exact Zaf.L1_lim _ _ _ _ | refine Lim.ite ?_ ?_ | refine Lim.bind ?_ (fun _ => ?_))))
theorem Zaf.L1_eq (x0 : List Int) (x4 : List Int) (x6 : List Int) (x7 : Int) : Zaf.L1 x0 x4 x6 x7 = (if x7 < (x0.length : Int) then (if 0 ≤ x7 then (if x7 < (x4.length : Int) then (if (rd x4 x7) > 1 then (if 0 ≤ (rd x0 x7) then (if (rd x0 x7) < (x4.length : Int) then (if (rd x4 (rd x0 x7)) > 1 then (if x7 < (x6.length : Int) then ((some (x6.set (x7 : Int).toNat (wrap64 ((rd x6 x7) + 1)) : List Int)).bind fun y231 => (if (rd x0 x7) < (x6.length : Int) then (Zaf.L1 x0 x4 (y231.set ((rd x0 x7) : Int).toNat (wrap64 ((rd y231 (rd x0 x7)) + 1))) (wrap64 (x7 + 1))) else (none))) else (none)) else (Zaf.L1 x0 x4 x6 (wrap64 (x7 + 1)))) else (none)) else (none)) else (Zaf.L1 x0 x4 x6 (wrap64 (x7 + 1)))) else (none)) else (none)) else ((Zaq.F x6).bind fun t235 => (some (decide (t235 ≤ 2), true)))) :=
 Lim.step (f := fun k => Zaf.l1 (k + 1) x0 x4 x6 x7) (Zaf.L1_lim x0 x4 x6 x7) (fun _ => rfl) (by
  simp only [Zaf.l1]
  repeat' (first | (with_reducible first | exact Lim.const _ | exact Zaf.L1_lim _ _ _ _ | exact Zaq.F_lim _ | refine Lim.ite ?_ ?_ | refine Lim.bind ?_ (fun _ => ?_))))
theorem Zaf.F_eq (l0 : List Int) : Zaf.F l0 = ((Zag.F l0).bind fun t215 => (if t215 = true then (if 0 ≤ (l0.length : Int) then (if ((l0.length : Int) : Int).toNat ≤ 35184372088832 then (Zaf.L0 l0 (List.replicate ((l0.length : Int) : Int).toNat 0) 1) else (none)) else (none)) else (some (false, false)))) :=
 Lim.unique (Zaf.F_lim l0) (by
  unfold Zaf.f
  repeat' (first | (with_reducible first | exact Lim.const _ | exact Zaf.L0_lim _ _ _ | exact Zag.F_lim _ | refine Lim.ite ?_ ?_ | refine Lim.bind ?_ (fun _ => ?_))))
def Zaj.l0 : Nat → List Int → Int → Int → Int → Option (Int)
 | 0, _, _, _, _ => none
 | k + 1, x0, x1, x7, x8 => if x8 < x7 then (if 0 ≤ x8 then (if x8 < (x0.length : Int) then (if x1 = (rd x0 x8) then (some x8) else (Zaj.l0 k x0 x1 x7 (wrap64 (x8 + 1)))) else (none)) else (none)) else (some (-1))
def Zaj.f (k : Nat) (l0 : List Int) (a1 : Int) : Option (Int) := Zaj.l0 k l0 a1 (l0.length : Int) 0
theorem Zaj.mono_l : ∀ k, (∀ y0 y1 y2 y3, LeO (Zaj.l0 k y0 y1 y2 y3) (Zaj.l0 (k + 1) y0 y1 y2 y3))
 | 0 => fun _ _ _ _ r h => by simp [Zaj.l0] at h
 | k + 1 => by
  have ih0 := Zaj.mono_l k
  ·intro y0 y1 y2 y3
   unfold Zaj.l0
   repeat' (first | (with_reducible first | exact ih0 _ _ _ _ | exact LeO.refl _ | exact LeO.none _ | refine LeO.ite ?_ ?_ | refine LeO.bind ?_ (fun _ => ?_)) | exact ih0 _ _ _ _ | exact LeO.none _ | refine LeO.ite ?_ ?_ | refine LeO.bind ?_ (fun _ => ?_))
theorem Zaj.mono : ∀ a0 a1 k, LeO (Zaj.f k a0 a1) (Zaj.f (k + 1) a0 a1) := by
 intro a0 a1 k
 have ih0 := Zaj.mono_l k
 unfold Zaj.f
 repeat' (first | (with_reducible first | exact ih0 _ _ _ _ | exact LeO.refl _ | exact LeO.none _ | refine LeO.ite ?_ ?_ | refine LeO.bind ?_ (fun _ => ?_)) | exact ih0 _ _ _ _ | exact LeO.none _ | refine LeO.ite ?_ ?_ | refine LeO.bind ?_ (fun _ => ?_))
theorem Zaj.calls (k : Nat) (A0 : Option Addr) (c0 : Nat) (l0 : List Int) (a1 : Int) (r : Int) (w : World) (hr0 : Kd.C (Kd.int .i64) w A0 l0.length l0) (hc0 : l0.length ≤ c0) (h : Zaj.f k l0 a1 = some r) :
  Calls Try.prog 78 #[.slice A0 l0.length c0, .int .i64 a1] w fun e w' => e = .returned (.int .i64 r) ∧ Drawn0 w w' := by
 have HR0 := Aside0.mk hr0
 have HC0 := Aside0.mk hc0
 clear hr0 hc0
 have H := h
 unfold Zaj.f at H
 clear h
 have H' := Aside0.mk H
 clear H
 go_enter Try.func78, Try.ntmps78
 go_wp2
 go_loopg [8] k (fun kq v8 w' => ∃ (x8_1 : Int), v8 = .int .i64 x8_1 ∧ Aside0 (Zaj.l0 kq l0 a1 (l0.length : Int) x8_1 = some r) ∧ Aside0 (kq ≤ k) ∧ Drawn0 w w')
 case atStart => exact ⟨(0), eqd, H', ⟨Nat.le_refl _⟩, by repeat (first | exact Drawn0.refl _ | apply Drawn0.step)⟩
 case round =>
  clear H'
  obtain ⟨x8_1, rfl, HA, HK1, ⟨m1, rfl⟩⟩ := hrel
  cases gk with
  | zero => exact absurd HA.out (by simp [Zaj.l0])
  | succ k1 =>
   have H := HA.out
   clear HA
   simp only [Zaj.l0] at H
   by_cases c3 : x8_1 < (l0.length : Int)
   rotate_left
   ·rw [if_neg c3] at H
    have c3b0 := decide_eq_false c3
    clear c3
    obtain rfl := Option.some.inj H
    go_wp2
    go_ret
    exact ⟨by first | rfl | (simp; done) | (simp [*]; done), by repeat (first | exact Drawn0.refl _ | apply Drawn0.step)⟩
   rw [if_pos c3] at H
   have c3b0 := decide_eq_true c3
   clear c3
   obtain ⟨c4b0, H⟩ := in_ H
   obtain ⟨c5b0, H⟩ := in_ H
   by_cases c6 : a1 = (rd l0 x8_1)
   ·rw [if_pos c6] at H
    have c6b0 : (a1 == (rd l0 x8_1)) = true := beq_iff_eq.mpr c6
    have c6b1 : (a1 != (rd l0 x8_1)) = false := bne_eq_false_iff_eq.mpr c6
    clear c6
    obtain rfl := Option.some.inj H
    have p188 : 0 ≤ (x8_1 : Int) := ofd
    have q188 : x8_1 < (l0.length : Int) := ofd
    obtain ⟨ad188, e188, hx188_0⟩ := Kd.at_int HR0.out x8_1 p188 q188
    cases e188
    replace p188 := eq_true p188
    replace q188 := eq_true q188
    go_wp2
    go_ret
    exact ⟨by first | rfl | (simp; done) | (simp [*]; done), by repeat (first | exact Drawn0.refl _ | apply Drawn0.step)⟩
   ·rw [if_neg c6] at H
    have c6b0 : (a1 == (rd l0 x8_1)) = false := beq_eq_false_iff_ne.mpr c6
    have c6b1 : (a1 != (rd l0 x8_1)) = true := bne_iff_ne.mpr c6
    have H' := Aside0.mk H
    clear H
    have p188 : 0 ≤ (x8_1 : Int) := ofd
    have q188 : x8_1 < (l0.length : Int) := ofd
    obtain ⟨ad188, e188, hx188_0⟩ := Kd.at_int HR0.out x8_1 p188 q188
    cases e188
    replace p188 := eq_true p188
    replace q188 := eq_true q188
    go_wp2
    go_roundg k1
    case measure => have := HK1.out; omega
    case rel => exact ⟨(wrap64 (x8_1 + 1)), eqd, H', ⟨by have := HK1.out; omega⟩, by repeat (first | exact Drawn0.refl _ | apply Drawn0.step)⟩
noncomputable def Zaj.L0 (x0 : List Int) (x1 : Int) (x7 : Int) (x8 : Int) : Option (Int) := lim fun k => Zaj.l0 k x0 x1 x7 x8
theorem Zaj.L0_lim (x0 : List Int) (x1 : Int) (x7 : Int) (x8 : Int) : Lim (fun k => Zaj.l0 k x0 x1 x7 x8) (Zaj.L0 x0 x1 x7 x8) := Lim.of fun k => (Zaj.mono_l k) x0 x1 x7 x8
noncomputable def Zaj.F (l0 : List Int) (a1 : Int) : Option (Int) := lim fun k => Zaj.f k l0 a1
theorem Zaj.F_lim (l0 : List Int) (a1 : Int) : Lim (fun k => Zaj.f k l0 a1) (Zaj.F l0 a1) := Lim.of fun k => Zaj.mono l0 a1 k
theorem Zaj.L0_eq (x0 : List Int) (x1 : Int) (x7 : Int) (x8 : Int) : Zaj.L0 x0 x1 x7 x8 = (if x8 < x7 then (if 0 ≤ x8 then (if x8 < (x0.length : Int) then (if x1 = (rd x0 x8) then (some x8) else (Zaj.L0 x0 x1 x7 (wrap64 (x8 + 1)))) else (none)) else (none)) else (some (-1))) :=
 Lim.step (f := fun k => Zaj.l0 (k + 1) x0 x1 x7 x8) (Zaj.L0_lim x0 x1 x7 x8) (fun _ => rfl) (by
  simp only [Zaj.l0]
  repeat' (first | (with_reducible first | exact Lim.const _ | exact Zaj.L0_lim _ _ _ _ | refine Lim.ite ?_ ?_ | refine Lim.bind ?_ (fun _ => ?_))))
theorem Zaj.F_eq (l0 : List Int) (a1 : Int) : Zaj.F l0 a1 = (Zaj.L0 l0 a1 (l0.length : Int) 0) :=
 Lim.unique (Zaj.F_lim l0 a1) (by
  unfold Zaj.f
  repeat' (first | (with_reducible first | exact Lim.const _ | exact Zaj.L0_lim _ _ _ _ | refine Lim.ite ?_ ?_ | refine Lim.bind ?_ (fun _ => ?_))))
def Zah.f (k : Nat) (l0 : List Int) (a1 : Int) : Option (Bool) := (Zaj.f k l0 a1).bind fun t189 => (some (decide (t189 ≥ 0)))
theorem Zah.mono : ∀ a0 a1 k, LeO (Zah.f k a0 a1) (Zah.f (k + 1) a0 a1) := by
 intro a0 a1 k
 unfold Zah.f
 repeat' (first | (with_reducible first | exact Zaj.mono _ _ _ | exact LeO.refl _ | exact LeO.none _ | refine LeO.ite ?_ ?_ | refine LeO.bind ?_ (fun _ => ?_)) | exact Zaj.mono _ _ _ | exact LeO.none _ | refine LeO.ite ?_ ?_ | refine LeO.bind ?_ (fun _ => ?_))
theorem Zah.calls (k : Nat) (A0 : Option Addr) (c0 : Nat) (l0 : List Int) (a1 : Int) (r : Bool) (w : World) (hr0 : Kd.C (Kd.int .i64) w A0 l0.length l0) (hc0 : l0.length ≤ c0) (h : Zah.f k l0 a1 = some r) :
  Calls Try.prog 63 #[.slice A0 l0.length c0, .int .i64 a1] w fun e w' => e = .returned (.bool r) ∧ Drawn0 w w' := by
 have HR0 := Aside0.mk hr0
 have HC0 := Aside0.mk hc0
 clear hr0 hc0
 have H := h
 unfold Zah.f at H
 clear h
 obtain ⟨t189, A3, H⟩ := bs_ H
 (try dsimp only at H)
 obtain rfl := Option.some.inj H
 go_enter Try.func63, Try.ntmps63
 go_wp2_with (first | ((with_reducible refine gate_callee (f := 78) rfl ?_); refine goesA (some 7) Try.func78 #[.slice A0 l0.length c0, .int .i64 a1] ?_; (with_reducible refine (Zaj.calls k _ _ l0 a1 t189 _ ?side1 ?side2 A3.out).mono ?_); (case side1 => repeat (first | exact HR0.out | (with_reducible refine Kd.C_alloc ?_ _) | (with_reducible refine Kd.C_drewN ?_ _) | (with_reducible refine Kd.C_drew ?_))); (case side2 => exact HC0.out); rintro e w' ⟨rfl, ⟨nd, rfl⟩⟩; refine ⟨_, rfl, ?_⟩))
 go_ret
 exact ⟨by first | rfl | (simp; done) | (simp [*]; done), by repeat (first | exact Drawn0.refl _ | apply Drawn0.step)⟩
noncomputable def Zah.F (l0 : List Int) (a1 : Int) : Option (Bool) := lim fun k => Zah.f k l0 a1
theorem Zah.F_lim (l0 : List Int) (a1 : Int) : Lim (fun k => Zah.f k l0 a1) (Zah.F l0 a1) := Lim.of fun k => Zah.mono l0 a1 k
theorem Zah.F_eq (l0 : List Int) (a1 : Int) : Zah.F l0 a1 = ((Zaj.F l0 a1).bind fun t189 => (some (decide (t189 ≥ 0)))) :=
 Lim.unique (Zah.F_lim l0 a1) (by
  unfold Zah.f
  repeat' (first | (with_reducible first | exact Lim.const _ | exact Zaj.F_lim _ _ | refine Lim.ite ?_ ?_ | refine Lim.bind ?_ (fun _ => ?_))))
def Zby.l0 : Nat → Int → List Int → List Int → Int → Int → Option (Bool)
 | 0, _, _, _, _, _ => none
 | k + 1, x0, x1, x7, x8, x9 => if x9 < x8 then (if 0 ≤ x9 then (if x9 < (x7.length : Int) then (if (rd x7 x9) < 0 then (some false) else (if (rd x7 x9) ≥ x0 then (some false) else (if x9 ≤ (x1.length : Int) then ((Zah.f k (x1.take (x9 : Int).toNat) (rd x7 x9)).bind fun t192 => (if t192 = true then (some false) else (Zby.l0 k x0 x1 x7 x8 (wrap64 (x9 + 1))))) else (none)))) else (none)) else (none)) else (some ((x1.length : Int) == x0))
def Zby.f (k : Nat) (a0 : Int) (l1 : List Int) : Option (Bool) := Zby.l0 k a0 l1 l1 (l1.length : Int) 0
theorem Zby.mono_l : ∀ k, (∀ y0 y1 y2 y3 y4, LeO (Zby.l0 k y0 y1 y2 y3 y4) (Zby.l0 (k + 1) y0 y1 y2 y3 y4))
 | 0 => fun _ _ _ _ _ r h => by simp [Zby.l0] at h
 | k + 1 => by
  have ih0 := Zby.mono_l k
  ·intro y0 y1 y2 y3 y4
   unfold Zby.l0
   repeat' (first | (with_reducible first | exact ih0 _ _ _ _ _ | exact Zah.mono _ _ _ | exact LeO.refl _ | exact LeO.none _ | refine LeO.ite ?_ ?_ | refine LeO.bind ?_ (fun _ => ?_)) | exact ih0 _ _ _ _ _ | exact Zah.mono _ _ _ | exact LeO.none _ | refine LeO.ite ?_ ?_ | refine LeO.bind ?_ (fun _ => ?_))
theorem Zby.mono : ∀ a0 a1 k, LeO (Zby.f k a0 a1) (Zby.f (k + 1) a0 a1) := by
 intro a0 a1 k
 have ih0 := Zby.mono_l k
 unfold Zby.f
 repeat' (first | (with_reducible first | exact ih0 _ _ _ _ _ | exact LeO.refl _ | exact LeO.none _ | refine LeO.ite ?_ ?_ | refine LeO.bind ?_ (fun _ => ?_)) | exact ih0 _ _ _ _ _ | exact LeO.none _ | refine LeO.ite ?_ ?_ | refine LeO.bind ?_ (fun _ => ?_))
theorem Zby.calls (k : Nat) (a0 : Int) (A1 : Option Addr) (c1 : Nat) (l1 : List Int) (r : Bool) (w : World) (hr1 : Kd.C (Kd.int .i64) w A1 l1.length l1) (hc1 : l1.length ≤ c1) (h : Zby.f k a0 l1 = some r) :
  Calls Try.prog 61 #[.int .i64 a0, .slice A1 l1.length c1] w fun e w' => e = .returned (.bool r) ∧ Drawn0 w w' := by
 have HR1 := Aside0.mk hr1
 have HC1 := Aside0.mk hc1
 clear hr1 hc1
 have H := h
 unfold Zby.f at H
 clear h
 have H' := Aside0.mk H
 clear H
 go_enter Try.func61, Try.ntmps61
 go_wp2
 go_loopg [9] k (fun kq v9 w' => ∃ (x9_1 : Int), v9 = .int .i64 x9_1 ∧ Aside0 (Zby.l0 kq a0 l1 l1 (l1.length : Int) x9_1 = some r) ∧ Aside0 (kq ≤ k) ∧ Drawn0 w w')
 case atStart => exact ⟨(0), eqd, H', ⟨Nat.le_refl _⟩, by repeat (first | exact Drawn0.refl _ | apply Drawn0.step)⟩
 case round =>
  clear H'
  try clear c1
  obtain ⟨x9_1, rfl, HA, HK1, ⟨m1, rfl⟩⟩ := hrel
  cases gk with
  | zero => exact absurd HA.out (by simp [Zby.l0])
  | succ k1 =>
   have H := HA.out
   clear HA
   simp only [Zby.l0] at H
   by_cases c3 : x9_1 < (l1.length : Int)
   rotate_left
   ·rw [if_neg c3] at H
    have c3b0 := decide_eq_false c3
    clear c3
    obtain rfl := Option.some.inj H
    go_wp2
    go_ret
    exact ⟨by first | rfl | (simp; done) | (simp [*]; done), by repeat (first | exact Drawn0.refl _ | apply Drawn0.step)⟩
   rw [if_pos c3] at H
   have c3b0 := decide_eq_true c3
   clear c3
   obtain ⟨c4b0, H⟩ := in_ H
   obtain ⟨c5b0, H⟩ := in_ H
   by_cases c6 : (rd l1 x9_1) < 0
   ·rw [if_pos c6] at H
    have c6b0 := decide_eq_true c6
    clear c6
    obtain rfl := Option.some.inj H
    have p190 : 0 ≤ (x9_1 : Int) := ofd
    have q190 : x9_1 < (l1.length : Int) := ofd
    obtain ⟨ad190, e190, hx190_0⟩ := Kd.at_int HR1.out x9_1 p190 q190
    cases e190
    replace p190 := eq_true p190
    replace q190 := eq_true q190
    go_wp2
    go_ret
    exact ⟨by first | rfl | (simp; done) | (simp [*]; done), by repeat (first | exact Drawn0.refl _ | apply Drawn0.step)⟩
   ·rw [if_neg c6] at H
    have c6b0 := decide_eq_false c6
    clear c6
    by_cases c7 : (rd l1 x9_1) ≥ a0
    ·rw [if_pos c7] at H
     have c7b0 := decide_eq_true c7
     clear c7
     obtain rfl := Option.some.inj H
     have p190 : 0 ≤ (x9_1 : Int) := ofd
     have q190 : x9_1 < (l1.length : Int) := ofd
     obtain ⟨ad190, e190, hx190_0⟩ := Kd.at_int HR1.out x9_1 p190 q190
     cases e190
     replace p190 := eq_true p190
     replace q190 := eq_true q190
     go_wp2
     go_ret
     exact ⟨by first | rfl | (simp; done) | (simp [*]; done), by repeat (first | exact Drawn0.refl _ | apply Drawn0.step)⟩
    ·rw [if_neg c7] at H
     have c7b0 := decide_eq_false c7
     clear c7
     have c8b0 := eq_true (of_decide_eq_true (by first | (with_reducible assumption) | assumption) : 0 ≤ x9_1)
     obtain ⟨c9b0, c9b1, H⟩ := in2_ H
     obtain ⟨t192, A10, H⟩ := bs_ H
     (try dsimp only at H)
     by_cases c11 : t192 = true
     ·subst c11
      replace H := it_ H
      obtain rfl := Option.some.inj H
      have p190 : 0 ≤ (x9_1 : Int) := ofd
      have q190 : x9_1 < (l1.length : Int) := ofd
      obtain ⟨ad190, e190, hx190_0⟩ := Kd.at_int HR1.out x9_1 p190 q190
      cases e190
      replace p190 := eq_true p190
      replace q190 := eq_true q190
      obtain ⟨i012, hi012, _, hsz12, _⟩ := info_parts info3
      obtain ⟨hcut12, hA12, hC12⟩ := print_take_of (P := Try.prog) (Value.int .i64) 0 24 3 .i64 Try.underlying24 hi012 hsz12 (some ad190) c1 l1 x9_1 (of_decide_eq_true (by first | (with_reducible assumption) | assumption)) (of_decide_eq_true (by first | (with_reducible assumption) | assumption)) HC1.out
      have HR191 := Aside0.mk (Kd.C_of_reads (h1 := fun _ => rfl) (hA12 _ (Kd.reads_of_C HR1.out)))
      have HC191 := Aside0.mk hC12
      clear hA12 hC12 hi012 hsz12
      go_wp2_with (first | (go_at_call 63; (try rw [show (Value.slice (some ad190) x9_1.toNat c1) = Value.slice (some ad190) (l1.take (x9_1 : Int).toNat).length c1 from (by rw [List.length_take]; have h_ : (x9_1 : Int) ≤ (l1.length : Int) := (by first | exact ofd | exact Int.le_of_lt ofd); rw [Nat.min_eq_left (by omega)])]); (with_reducible refine (Zah.calls k1 _ _ (l1.take (x9_1 : Int).toNat) (rd l1 x9_1) true _ ?side1 ?side2 A10.out).mono ?_); (case side1 => repeat (first | exact HR191.out | (with_reducible refine Kd.C_alloc ?_ _) | (with_reducible refine Kd.C_drewN ?_ _) | (with_reducible refine Kd.C_drew ?_))); (case side2 => exact HC191.out); rintro e w' ⟨rfl, ⟨nd, rfl⟩⟩))
      go_ret
      exact ⟨by first | rfl | (simp; done) | (simp [*]; done), by repeat (first | exact Drawn0.refl _ | apply Drawn0.step)⟩
     ·replace c11 := Bool.eq_false_iff.mpr c11
      subst c11
      replace H := if_ H
      have H' := Aside0.mk H
      clear H
      have p190 : 0 ≤ (x9_1 : Int) := ofd
      have q190 : x9_1 < (l1.length : Int) := ofd
      obtain ⟨ad190, e190, hx190_0⟩ := Kd.at_int HR1.out x9_1 p190 q190
      cases e190
      replace p190 := eq_true p190
      replace q190 := eq_true q190
      obtain ⟨i013, hi013, _, hsz13, _⟩ := info_parts info3
      obtain ⟨hcut13, hA13, hC13⟩ := print_take_of (P := Try.prog) (Value.int .i64) 0 24 3 .i64 Try.underlying24 hi013 hsz13 (some ad190) c1 l1 x9_1 (of_decide_eq_true (by first | (with_reducible assumption) | assumption)) (of_decide_eq_true (by first | (with_reducible assumption) | assumption)) HC1.out
      have HR191 := Aside0.mk (Kd.C_of_reads (h1 := fun _ => rfl) (hA13 _ (Kd.reads_of_C HR1.out)))
      have HC191 := Aside0.mk hC13
      clear hA13 hC13 hi013 hsz13
      go_wp2_with (first | (go_at_call 63; (try rw [show (Value.slice (some ad190) x9_1.toNat c1) = Value.slice (some ad190) (l1.take (x9_1 : Int).toNat).length c1 from (by rw [List.length_take]; have h_ : (x9_1 : Int) ≤ (l1.length : Int) := (by first | exact ofd | exact Int.le_of_lt ofd); rw [Nat.min_eq_left (by omega)])]); (with_reducible refine (Zah.calls k1 _ _ (l1.take (x9_1 : Int).toNat) (rd l1 x9_1) false _ ?side1 ?side2 A10.out).mono ?_); (case side1 => repeat (first | exact HR191.out | (with_reducible refine Kd.C_alloc ?_ _) | (with_reducible refine Kd.C_drewN ?_ _) | (with_reducible refine Kd.C_drew ?_))); (case side2 => exact HC191.out); rintro e w' ⟨rfl, ⟨nd, rfl⟩⟩))
      go_roundg k1
      case measure => have := HK1.out; omega
      case rel => exact ⟨(wrap64 (x9_1 + 1)), eqd, H', ⟨by have := HK1.out; omega⟩, by repeat (first | exact Drawn0.refl _ | apply Drawn0.step)⟩
def Zcy.f (a0 : Int) (a1 : Int) : Option (Int) := some (mx (wrap64 (a0 - a1)) (wrap64 (a1 - a0)))
theorem Zcy.calls (a0 : Int) (a1 : Int) (r : Int) (w : World) (h : Zcy.f a0 a1 = some r) :
  Calls Try.prog 66 #[.int .i64 a0, .int .i64 a1] w fun e w' => e = .returned (.int .i64 r) ∧ Below w.heap.size w w' := by
 have HB := Aside0.mk (Below.refl w.heap.size w)
 have H := h
 unfold Zcy.f at H
 clear h
 obtain ⟨ji3, hji3⟩ : ∃ j_ : Int, (mx (wrap64 (a0 - a1)) (wrap64 (a1 - a0))) = j_ := ⟨_, rfl⟩
 replace H : (some ji3) = some r := by first | (rw [hji3] at H; exact H) | (simp only [hji3] at H ⊢; exact H)
 have hji3_ : (if (wrap64 (a0 - a1)) < (wrap64 (a1 - a0)) then (wrap64 (a1 - a0)) else (wrap64 (a0 - a1))) = ji3 := hji3
 obtain rfl := Option.some.inj H
 go_enter Try.func66, Try.ntmps66
 go_wp2
 go_ret
 exact ⟨by first | rfl | (simp [errW_none, errW_some] <;> rfl) | (simp only [← hji3]; first | rfl | (simp [errW_none, errW_some] <;> rfl)) | (simp [*, errW_none, errW_some] <;> rfl), atB HB⟩
def Zay.l0 : Nat → List Int → List Int → List Int → Int → Option (List Int)
 | 0, _, _, _, _ => none
 | k + 1, x0, x1, x5, x6 => if x6 < (x1.length : Int) then (if 0 ≤ x6 then (if x6 < (x0.length : Int) then (if 0 ≤ (rd x0 x6) then (if (rd x0 x6) < (x1.length : Int) then ((Zcy.f (rd x1 x6) (rd x1 (rd x0 x6))).bind fun t196 => (if x5.length < 17592186044416 then (Zay.l0 k x0 x1 (x5 ++ [t196]) (wrap64 (x6 + 1))) else (none))) else (none)) else (none)) else (none)) else (none)) else (some x5)
def Zay.f (k : Nat) (l0 : List Int) (l1 : List Int) : Option (List Int) := Zay.l0 k l0 l1 ([] : List Int) 1
theorem Zay.mono_l : ∀ k, (∀ y0 y1 y2 y3, LeO (Zay.l0 k y0 y1 y2 y3) (Zay.l0 (k + 1) y0 y1 y2 y3))
 | 0 => fun _ _ _ _ r h => by simp [Zay.l0] at h
 | k + 1 => by
  have ih0 := Zay.mono_l k
  ·intro y0 y1 y2 y3
   unfold Zay.l0
   repeat' (first | (with_reducible first | exact ih0 _ _ _ _ | exact LeO.refl _ | exact LeO.none _ | refine LeO.ite ?_ ?_ | refine LeO.bind ?_ (fun _ => ?_)) | exact ih0 _ _ _ _ | exact LeO.none _ | refine LeO.ite ?_ ?_ | refine LeO.bind ?_ (fun _ => ?_))
theorem Zay.mono : ∀ a0 a1 k, LeO (Zay.f k a0 a1) (Zay.f (k + 1) a0 a1) := by
 intro a0 a1 k
 have ih0 := Zay.mono_l k
 unfold Zay.f
 repeat' (first | (with_reducible first | exact ih0 _ _ _ _ | exact LeO.refl _ | exact LeO.none _ | refine LeO.ite ?_ ?_ | refine LeO.bind ?_ (fun _ => ?_)) | exact ih0 _ _ _ _ | exact LeO.none _ | refine LeO.ite ?_ ?_ | refine LeO.bind ?_ (fun _ => ?_))
def Zay.T5 : Bool × List (List Nat × List Nat) := (true, [([], []), ([], []), ([], []), ([1, 2], [1, 2]), ([3], [3]), ([], []), ([], []), ([], []), ([6, 7], [6, 7]), ([8], [8]), ([5, 9], [5, 9]), ([10], [10]), ([4, 11], [4, 11]), ([12], [12]), ([0, 13, 12], [0, 13]), ([14, 14, 0, 1, 2, 3, 4, 5, 6, 7, 8, 9, 10, 11, 12, 13, 14], [0, 14])])
def Zay.B5 : List Nat := [0, 0, 0, 6, 14, 0, 0, 0, 192, 448, 992, 2016, 4094, 8190, 16383, 32767]
theorem Zay.tab5 : rtab .any (opsOf Try.f62 5) = Zay.T5 := by kernel_rfl
theorem Zay.bits5 : waitsOk Zay.T5.2 Zay.B5 = true := by kernel_rfl
theorem Zay.calls (k : Nat) (A0 : Option Addr) (c0 : Nat) (l0 : List Int) (A1 : Option Addr) (c1 : Nat) (l1 : List Int) (r : List Int) (w : World) (hr0 : Kd.C (Kd.int .i64) w A0 l0.length l0) (hc0 : l0.length ≤ c0) (hr1 : Kd.C (Kd.int .i64) w A1 l1.length l1) (hc1 : l1.length ≤ c1) (h : Zay.f k l0 l1 = some r) :
  Calls Try.prog 62 #[.slice A0 l0.length c0, .slice A1 l1.length c1] w fun e w' => ∃ v0_ : Value, e = .returned (v0_) ∧ Kd.R (Kd.int .i64) 3 w' w.heap.size (fun _ => True) v0_ r ∧ Below w.heap.size w w' := by
 have HR0 := Aside0.mk hr0
 have HC0 := Aside0.mk hc0
 clear hr0 hc0
 have HR1 := Aside0.mk hr1
 have HC1 := Aside0.mk hc1
 clear hr1 hc1
 have HB := Aside0.mk (Below.refl w.heap.size w)
 have H := h
 unfold Zay.f at H
 clear h
 have H' := Aside0.mk H
 clear H
 go_enter Try.func62, Try.ntmps62
 go_wp2
 go_loopg [5, 6] k (fun kq v5 v6 w' => ∃ (x5_1 : List Int) (x6_1 : Int), v6 = .int .i64 x6_1 ∧ Aside0 (Zay.l0 kq l0 l1 x5_1 x6_1 = some r) ∧ Aside0 (kq ≤ k) ∧ Aside0 (Kd.R (Kd.int .i64) 3 w' w.heap.size (fun _ => True) v5 x5_1) ∧ Aside0 (Below w.heap.size w w'))
 case atStart => exact ⟨(([] : List Int)), (1), eqd, H', ⟨Nat.le_refl _⟩, ⟨by first | exact Kd.R_nil _ _ _ _ _ | exact Kd.N_nil _ _ _ _ _ | exact Kd.V_nil _ _ _ _ _ | exact Kd.Q_nil _ _ _ _ _ | exact Kd.S_nil _ _ _ _ _⟩, ⟨atB HB⟩⟩
 case round =>
  clear H'
  try clear c1
  obtain ⟨x5_1, x6_1, rfl, HA, HK1, HO_5, HB⟩ := hrel
  cases gk with
  | zero => exact absurd HA.out (by simp [Zay.l0])
  | succ k1 =>
   have H := HA.out
   clear HA
   simp only [Zay.l0] at H
   by_cases c3 : x6_1 < (l1.length : Int)
   rotate_left
   ·rw [if_neg c3] at H
    have c3b0 := decide_eq_false c3
    clear c3
    obtain rfl := Option.some.inj H
    go_wp2
    go_ret
    exact ⟨_, eqr, atR HO_5, atB HB⟩
   rw [if_pos c3] at H
   have c3b0 := decide_eq_true c3
   clear c3
   obtain ⟨c4b0, H⟩ := in_ H
   obtain ⟨c5b0, H⟩ := in_ H
   obtain ⟨c6b0, H⟩ := in_ H
   obtain ⟨c7b0, H⟩ := in_ H
   obtain ⟨t196, A8, H⟩ := bs_ H
   (try dsimp only at H)
   obtain ⟨c9, H⟩ := in0_ H
   have LMc9 := Aside0.mk c9
   clear c9
   obtain ⟨y197, hy197⟩ : ∃ y_ : List Int, y_ = (x5_1 ++ [t196]) := ⟨_, rfl⟩
   replace H : (Zay.l0 k1 l0 l1 y197 (wrap64 (x6_1 + 1))) = some r := by first | (rw [hy197]; with_reducible exact H) | (have H2_ := (Option.bind_some _ _).symm.trans H; rw [hy197]; with_reducible exact H2_) | (have H2_ := (Option.bind_some _ _).symm.trans H; with_reducible exact H2_) | with_reducible exact H | (rw [hy197]; exact H) | exact H
   have Ny197 := Aside0.mk hy197
   clear hy197
   have H' := Aside0.mk H
   clear H
   try go_wp2
   have n0_ := Aside0.mk (Kd.R_drew HO_5.out)
   have n1_ := Aside0.mk (below_drew1 HB.out)
   clear HO_5
   clear HB
   have HO_5 := n0_
   have HB := n1_
   clear n0_ n1_
   have p193 : 0 ≤ (x6_1 : Int) := ofd
   have q193 : x6_1 < (l1.length : Int) := ofd
   obtain ⟨ad193, e193, hx193_0⟩ := Kd.at_int HR1.out x6_1 p193 q193
   have hw193_0 := hx193_0
   cases e193
   (try replace hx193_0 := (HB.out.cell (World.block_lt_of_cell? w _ hx193_0)).trans hx193_0)
   replace p193 := eq_true p193
   replace q193 := eq_true q193
   have p194 : 0 ≤ (x6_1 : Int) := ofd
   have q194 : x6_1 < (l0.length : Int) := ofd
   obtain ⟨ad194, e194, hx194_0⟩ := Kd.at_int HR0.out x6_1 p194 q194
   have hw194_0 := hx194_0
   cases e194
   (try replace hx194_0 := (HB.out.cell (World.block_lt_of_cell? w _ hx194_0)).trans hx194_0)
   replace p194 := eq_true p194
   replace q194 := eq_true q194
   have p195 : 0 ≤ ((rd l0 x6_1) : Int) := ofd
   have q195 : (rd l0 x6_1) < (l1.length : Int) := ofd
   obtain ⟨ad195, e195, hx195_0⟩ := Kd.at_int HR1.out (rd l0 x6_1) p195 q195
   have hw195_0 := hx195_0
   obtain rfl : ad193 = ad195 := (by injection e195)
   (try replace hx195_0 := (HB.out.cell (World.block_lt_of_cell? w _ hx195_0)).trans hx195_0)
   replace p195 := eq_true p195
   replace q195 := eq_true q195
   refine start_ (n := 16) (S := fun w' => w'.cell? (ad193.add (x6_1).toNat) = some (.int .i64 (rd l1 x6_1)) ∧ w'.cell? (ad194.add (x6_1).toNat) = some (.int .i64 (rd l0 x6_1)) ∧ w'.cell? (ad193.add ((rd l0 x6_1)).toNat) = some (.int .i64 (rd l1 (rd l0 x6_1)))) (ds := []) #[false, false, false, false, false, false, false, false, false, false, false, false, false, false, false, false] (by kernel_rfl) rfl rfl ⟨((HB.out.cell (World.block_lt_of_cell? w _ hw193_0)).trans hw193_0), ((HB.out.cell (World.block_lt_of_cell? w _ hw194_0)).trans hw194_0), ((HB.out.cell (World.block_lt_of_cell? w _ hw195_0)).trans hw195_0)⟩ (fun hHeld => ?_); refine with_tabW Zay.tab5 Zay.bits5 (fun HT_ HW_ => ?_)
   generalize wr.drew = w10 at HO_5 HB hx193_0 hx194_0 hx195_0 hHeld ⊢
   refine pure_ (i := 0) (N := some 13) (v := ?_) (a' := ?_) #[true, false, false, false, false, false, false, false, false, false, false, false, false, false, false, false] rfl rfl (any_of HT_.out (by kernel_rfl)) (fun _ _ _ h => h) (Or.inl ⟨by rfl, ?_⟩) ?_ ?_
   rotate_left
   ·intro w'
    go_simp
    with_reducible rfl
   rotate_left
   ·simp only [Act.put, List.setIfInBounds_toArray, List.set_cons_zero, List.set_cons_succ, i64_w, i32_w]
    rfl
   refine pure_ (i := 1) (N := some 14) (v := ?_) (a' := ?_) #[true, true, false, false, false, false, false, false, false, false, false, false, false, false, false, false] rfl rfl (any_of HT_.out (by kernel_rfl)) (fun _ _ _ h => h) (Or.inl ⟨by rfl, ?_⟩) ?_ ?_
   rotate_left
   ·intro w'
    go_simp
    with_reducible rfl
   rotate_left
   ·simp only [Act.put, List.setIfInBounds_toArray, List.set_cons_zero, List.set_cons_succ, i64_w, i32_w]
    rfl
   refine pure_ (i := 2) (N := some 15) (v := ?_) (a' := ?_) #[true, true, true, false, false, false, false, false, false, false, false, false, false, false, false, false] rfl rfl (any_of HT_.out (by kernel_rfl)) (fun _ _ _ h => h) (Or.inl ⟨by rfl, ?_⟩) ?_ ?_
   rotate_left
   ·intro w'
    go_simp
    with_reducible rfl
   rotate_left
   ·simp only [Act.put, List.setIfInBounds_toArray, List.set_cons_zero, List.set_cons_succ, i64_w, i32_w]
    rfl
   refine pure_ (i := 3) (N := some 16) (v := ?_) (a' := ?_) #[true, true, true, true, false, false, false, false, false, false, false, false, false, false, false, false] rfl rfl (any_of HT_.out (by kernel_rfl)) (fun _ _ _ h => h) (Or.inl ⟨by rfl, ?_⟩) ?_ ?_
   rotate_left
   ·intro w'
    go_simp
    with_reducible rfl
   rotate_left
   ·simp only [Act.put, List.setIfInBounds_toArray, List.set_cons_zero, List.set_cons_succ, i64_w, i32_w]
    rfl
   refine pure_ (i := 5) (N := some 18) (v := ?_) (a' := ?_) #[true, true, true, true, false, true, false, false, false, false, false, false, false, false, false, false] rfl rfl (any_of HT_.out (by kernel_rfl)) (fun _ _ _ h => h) (Or.inl ⟨by rfl, ?_⟩) ?_ ?_
   rotate_left
   ·intro w'
    go_simp
    with_reducible rfl
   rotate_left
   ·simp only [Act.put, List.setIfInBounds_toArray, List.set_cons_zero, List.set_cons_succ, i64_w, i32_w]
    rfl
   refine pure_ (i := 6) (N := some 19) (v := ?_) (a' := ?_) #[true, true, true, true, false, true, true, false, false, false, false, false, false, false, false, false] rfl rfl (any_of HT_.out (by kernel_rfl)) (fun _ _ _ h => h) (Or.inl ⟨by rfl, ?_⟩) ?_ ?_
   rotate_left
   ·intro w'
    go_simp
    with_reducible rfl
   rotate_left
   ·simp only [Act.put, List.setIfInBounds_toArray, List.set_cons_zero, List.set_cons_succ, i64_w, i32_w]
    rfl
   refine pure_ (i := 7) (N := some 20) (v := ?_) (a' := ?_) #[true, true, true, true, false, true, true, true, false, false, false, false, false, false, false, false] rfl rfl (any_of HT_.out (by kernel_rfl)) (fun _ _ _ h => h) (Or.inl ⟨by rfl, ?_⟩) ?_ ?_
   rotate_left
   ·intro w'
    go_simp
    with_reducible rfl
   rotate_left
   ·simp only [Act.put, List.setIfInBounds_toArray, List.set_cons_zero, List.set_cons_succ, i64_w, i32_w]
    rfl
   refine pure_ (i := 8) (N := some 21) (v := ?_) (a' := ?_) #[true, true, true, true, false, true, true, true, true, false, false, false, false, false, false, false] rfl rfl (any_of HT_.out (by kernel_rfl)) (fun _ _ _ h => h) (Or.inl ⟨by rfl, ?_⟩) ?_ ?_
   rotate_left
   ·intro w'
    go_simp
    with_reducible rfl
   rotate_left
   ·simp only [Act.put, List.setIfInBounds_toArray, List.set_cons_zero, List.set_cons_succ, i64_w, i32_w]
    rfl
   refine take_ (i := 4) (N := some 17) (v := ?_) (a' := ?_) #[true, true, true, true, true, true, true, true, true, false, false, false, false, false, false, false] rfl rfl (take_ofW HT_.out HW_.out (by kernel_rfl)) (fun _ _ _ h => h) (Or.inl ⟨by rfl, ?_⟩) hHeld ?_ ?_
   rotate_left
   ·rintro w' ⟨s0, s1, s2⟩
    go_simp
    with_reducible rfl
   rotate_left
   ·simp only [Act.put, List.setIfInBounds_toArray, List.set_cons_zero, List.set_cons_succ, i64_w, i32_w]
    rfl
   refine take_ (i := 9) (N := some 22) (v := ?_) (a' := ?_) #[true, true, true, true, true, true, true, true, true, true, false, false, false, false, false, false] rfl rfl (take_ofW HT_.out HW_.out (by kernel_rfl)) (fun _ _ _ h => h) (Or.inl ⟨by rfl, ?_⟩) hHeld ?_ ?_
   rotate_left
   ·rintro w' ⟨s0, s1, s2⟩
    go_simp
    with_reducible rfl
   rotate_left
   ·simp only [Act.put, List.setIfInBounds_toArray, List.set_cons_zero, List.set_cons_succ, i64_w, i32_w]
    rfl
   refine pure_ (i := 10) (N := some 23) (v := ?_) (a' := ?_) #[true, true, true, true, true, true, true, true, true, true, true, false, false, false, false, false] rfl rfl (any_of HT_.out (by kernel_rfl)) (fun _ _ _ h => h) (Or.inl ⟨by rfl, ?_⟩) ?_ ?_
   rotate_left
   ·intro w'
    go_simp
    with_reducible rfl
   rotate_left
   ·simp only [Act.put, List.setIfInBounds_toArray, List.set_cons_zero, List.set_cons_succ, i64_w, i32_w]
    rfl
   refine take_ (i := 11) (N := some 24) (v := ?_) (a' := ?_) #[true, true, true, true, true, true, true, true, true, true, true, true, false, false, false, false] rfl rfl (take_ofW HT_.out HW_.out (by kernel_rfl)) (fun _ _ _ h => h) (Or.inl ⟨by rfl, ?_⟩) hHeld ?_ ?_
   rotate_left
   ·rintro w' ⟨s0, s1, s2⟩
    go_simp
    with_reducible rfl
   rotate_left
   ·simp only [Act.put, List.setIfInBounds_toArray, List.set_cons_zero, List.set_cons_succ, i64_w, i32_w]
    rfl
   refine one_ (i := 12) (N := some 25) #[true, true, true, true, true, true, true, true, true, true, true, true, true, false, false, false] rfl rfl (one_of HT_.out (by kernel_rfl)) (by decide) (fun K hK => ?_)
   refine goes_ Try.func66 (by kernel_rfl) rfl #[.int .i64 (rd l1 x6_1), .int .i64 (rd l1 (rd l0 x6_1))] (by rfl) rfl rfl (by (try simp only [List.map_toArray, List.map_cons, List.map_nil]); first | done | rfl | (simp only [List.length_drop, List.length_take]; rfl)) ?_
   with_reducible refine (Zcy.calls (rd l1 x6_1) (rd l1 (rd l0 x6_1)) t196 _ A8.out).mono ?_
   rintro e w11 ⟨rfl, hb⟩
   refine ⟨_, rfl, ?_⟩
   have n0_ := upR HO_5 hb
   have n1_ := upB HB hb
   clear HO_5
   clear HB
   have HO_5 := n0_
   have HB := n1_
   clear n0_ n1_
   (try clear hb)
   (try clear hb2)
   (try clear hk)
   (try clear hi)
   refine hK.out _ _ ⟨((HB.out.cell (World.block_lt_of_cell? w _ hw193_0)).trans hw193_0), ((HB.out.cell (World.block_lt_of_cell? w _ hw194_0)).trans hw194_0), ((HB.out.cell (World.block_lt_of_cell? w _ hw195_0)).trans hw195_0)⟩ (fun hHeld => ?_)
   clear hK K
   refine norm_ (a' := ?_) ?_ ?_
   rotate_left
   ·show Act.put _ (some 25) _ = _
    simp only [Act.put, List.setIfInBounds_toArray, List.set_cons_zero, List.set_cons_succ, i64_w, i32_w]
    rfl
   refine one_ (i := 13) (N := some 26) #[true, true, true, true, true, true, true, true, true, true, true, true, true, true, false, false] rfl rfl (one_of HT_.out (by kernel_rfl)) (by decide) (fun K hK => ?_)
   refine value_ (w1 := ?_) (v := ?_) (by rfl) rfl ?_ ?_
   rotate_left 2
   ·go_simp
    constructor
    ·rfl
    ·rfl
   refine hK.out _ _ ⟨(World.cell?_alloc_lt _ _ _ (World.block_lt_of_cell? _ _ (((HB.out.cell (World.block_lt_of_cell? w _ hw193_0)).trans hw193_0)))).trans (((HB.out.cell (World.block_lt_of_cell? w _ hw193_0)).trans hw193_0)), (World.cell?_alloc_lt _ _ _ (World.block_lt_of_cell? _ _ (((HB.out.cell (World.block_lt_of_cell? w _ hw194_0)).trans hw194_0)))).trans (((HB.out.cell (World.block_lt_of_cell? w _ hw194_0)).trans hw194_0)), (World.cell?_alloc_lt _ _ _ (World.block_lt_of_cell? _ _ (((HB.out.cell (World.block_lt_of_cell? w _ hw195_0)).trans hw195_0)))).trans (((HB.out.cell (World.block_lt_of_cell? w _ hw195_0)).trans hw195_0))⟩ (fun hHeld => ?_)
   clear hK K
   refine norm_ (a' := ?_) ?_ ?_
   rotate_left
   ·show Act.put _ (some 26) _ = _
    simp only [Act.put, List.setIfInBounds_toArray, List.set_cons_zero, List.set_cons_succ, i64_w, i32_w]
    rfl
   refine one_ (i := 14) (N := some 27) #[true, true, true, true, true, true, true, true, true, true, true, true, true, true, true, false] rfl rfl (one_of HT_.out (by kernel_rfl)) (by decide) (fun K hK => ?_)
   refine Kd.R_append_step (Kd.int .i64) (w0 := w) w.heap.size (by rfl) (.tmp 13) (.tmp 26) 24 3 (.int .i64 0) 8 rfl Try.underlying24 info3 rfl (by decide) (by omega) u5 x5_1 t196 [.int .i64 t196] (fun _ => True) (fun _ => False) rfl rfl ?aP (fun _ hk => hk.elim) ?aF ?aO ?aB ?aS ?aL ?_
   (case aP => exact rfl)
   (case aB => exact (atB HB))
   (case aF => exact (fun _ _ => trivial))
   (case aO => exact (atR HO_5))
   (case aS => exact (szB HB))
   (case aL => have := LMc9.out; omega)
   intro v198 w12 ho hb hg hat
   rw [← Ny197.out] at ho
   have n0_ := Aside0.mk (hb)
   have n1_ := Aside0.mk (ho)
   clear HB
   clear HO_5
   have HB := n0_
   have HO199 := n1_
   clear n0_ n1_
   clear ho hb hg hat
   refine hK.out _ _ ⟨((HB.out.cell (World.block_lt_of_cell? w _ hw193_0)).trans hw193_0), ((HB.out.cell (World.block_lt_of_cell? w _ hw194_0)).trans hw194_0), ((HB.out.cell (World.block_lt_of_cell? w _ hw195_0)).trans hw195_0)⟩ (fun hHeld => ?_)
   clear hK K
   refine norm_ (a' := ?_) ?_ ?_
   rotate_left
   ·show Act.put _ (some 27) _ = _
    simp only [Act.put, List.setIfInBounds_toArray, List.set_cons_zero, List.set_cons_succ, i64_w, i32_w]
    rfl
   refine pure_ (i := 15) (N := some 5) (v := ?_) (a' := ?_) #[true, true, true, true, true, true, true, true, true, true, true, true, true, true, true, true] rfl rfl (any_of HT_.out (by kernel_rfl)) (fun _ _ _ h => h) (Or.inl ⟨by rfl, ?_⟩) ?_ ?_
   rotate_left
   ·intro w'
    go_simp
    with_reducible rfl
   rotate_left
   ·simp only [Act.put, List.setIfInBounds_toArray, List.set_cons_zero, List.set_cons_succ, i64_w, i32_w]
    rfl
   refine done_ (done_of HT_.out (by kernel_rfl)) ?_
   try go_wp2
   go_roundg k1
   case measure => have := HK1.out; omega
   case rel => exact ⟨(y197), (wrap64 (x6_1 + 1)), eqd, H', ⟨by have := HK1.out; omega⟩, ⟨atR HO199⟩, ⟨atB HB⟩⟩
noncomputable def Zay.F (l0 : List Int) (l1 : List Int) : Option (List Int) := lim fun k => Zay.f k l0 l1
theorem Zay.F_lim (l0 : List Int) (l1 : List Int) : Lim (fun k => Zay.f k l0 l1) (Zay.F l0 l1) := Lim.of fun k => Zay.mono l0 l1 k
def Zcr.f (k : Nat) (l0 : List Int) (l1 : List Int) : Option (List Int × Bool) := (Zag.f k l0).bind fun t200 => (if t200 = true then ((Zby.f k (l0.length : Int) l1).bind fun t201 => (if t201 = true then ((Zay.f k l0 l1).bind fun t202 => (some (t202, true))) else (some (([] : List Int), false)))) else (some (([] : List Int), false)))
theorem Zcr.mono : ∀ a0 a1 k, LeO (Zcr.f k a0 a1) (Zcr.f (k + 1) a0 a1) := by
 intro a0 a1 k
 unfold Zcr.f
 repeat' (first | (with_reducible first | exact Zag.mono _ _ | exact Zby.mono _ _ _ | exact Zay.mono _ _ _ | exact LeO.refl _ | exact LeO.none _ | refine LeO.ite ?_ ?_ | refine LeO.bind ?_ (fun _ => ?_)) | exact Zag.mono _ _ | exact Zby.mono _ _ _ | exact Zay.mono _ _ _ | exact LeO.none _ | refine LeO.ite ?_ ?_ | refine LeO.bind ?_ (fun _ => ?_))
theorem Zcr.calls (k : Nat) (A0 : Option Addr) (c0 : Nat) (l0 : List Int) (A1 : Option Addr) (c1 : Nat) (l1 : List Int) (r1 : List Int) (r2 : Bool) (w : World) (hr0 : Kd.C (Kd.int .i64) w A0 l0.length l0) (hc0 : l0.length ≤ c0) (hr1 : Kd.C (Kd.int .i64) w A1 l1.length l1) (hc1 : l1.length ≤ c1) (h : Zcr.f k l0 l1 = some (r1, r2)) :
  Calls Try.prog 39 #[.slice A0 l0.length c0, .slice A1 l1.length c1] w fun e w' => ∃ v0_ : Value, e = .returned (.tuple #[v0_, .bool r2]) ∧ Kd.R (Kd.int .i64) 3 w' w.heap.size (fun _ => True) v0_ r1 ∧ Below w.heap.size w w' := by
 have HR0 := Aside0.mk hr0
 have HC0 := Aside0.mk hc0
 clear hr0 hc0
 have HR1 := Aside0.mk hr1
 have HC1 := Aside0.mk hc1
 clear hr1 hc1
 have HB := Aside0.mk (Below.refl w.heap.size w)
 have H := h
 unfold Zcr.f at H
 clear h
 obtain ⟨t200, A3, H⟩ := bs_ H
 (try dsimp only at H)
 by_cases c4 : t200 = true
 rotate_left
 ·replace c4 := Bool.eq_false_iff.mpr c4
  subst c4
  replace H := if_ H
  simp only [Option.some.injEq, Prod.mk.injEq] at H
  obtain ⟨rfl, rfl⟩ := H
  go_enter Try.func39, Try.ntmps39
  go_wp2_with (first | ((with_reducible refine gate_callee (f := 19) rfl ?_); refine goesA (some 7) Try.func19 #[.slice A0 l0.length c0] ?_; (with_reducible refine (Zag.calls k _ _ l0 false _ ?side1 ?side2 A3.out).mono ?_); (case side1 => repeat (first | exact HR0.out | (with_reducible refine Kd.C_alloc ?_ _) | (with_reducible refine Kd.C_drewN ?_ _) | (with_reducible refine Kd.C_drew ?_))); (case side2 => exact HC0.out); rintro e w' ⟨rfl, ⟨nd, rfl⟩⟩; refine ⟨_, rfl, ?_⟩))
  go_ret2
  exact ⟨_, eqr, by first | exact Kd.R_nil _ _ _ _ _ | exact Kd.N_nil _ _ _ _ _ | exact Kd.V_nil _ _ _ _ _ | exact Kd.Q_nil _ _ _ _ _ | exact Kd.S_nil _ _ _ _ _, atB HB⟩
 subst c4
 replace H := it_ H
 obtain ⟨t201, A5, H⟩ := bs_ H
 (try dsimp only at H)
 by_cases c6 : t201 = true
 rotate_left
 ·replace c6 := Bool.eq_false_iff.mpr c6
  subst c6
  replace H := if_ H
  simp only [Option.some.injEq, Prod.mk.injEq] at H
  obtain ⟨rfl, rfl⟩ := H
  go_enter Try.func39, Try.ntmps39
  go_wp2_with (first | ((with_reducible refine gate_callee (f := 19) rfl ?_); refine goesA (some 7) Try.func19 #[.slice A0 l0.length c0] ?_; (with_reducible refine (Zag.calls k _ _ l0 true _ ?side1 ?side2 A3.out).mono ?_); (case side1 => repeat (first | exact HR0.out | (with_reducible refine Kd.C_alloc ?_ _) | (with_reducible refine Kd.C_drewN ?_ _) | (with_reducible refine Kd.C_drew ?_))); (case side2 => exact HC0.out); rintro e w' ⟨rfl, ⟨nd, rfl⟩⟩; refine ⟨_, rfl, ?_⟩) | (go_at_call 61; (with_reducible refine (Zby.calls k (l0.length : Int) _ _ l1 false _ ?side1 ?side2 A5.out).mono ?_); (case side1 => repeat (first | exact HR1.out | (with_reducible refine Kd.C_alloc ?_ _) | (with_reducible refine Kd.C_drewN ?_ _) | (with_reducible refine Kd.C_drew ?_))); (case side2 => exact HC1.out); rintro e w' ⟨rfl, ⟨nd, rfl⟩⟩))
  go_ret2
  exact ⟨_, eqr, by first | exact Kd.R_nil _ _ _ _ _ | exact Kd.N_nil _ _ _ _ _ | exact Kd.V_nil _ _ _ _ _ | exact Kd.Q_nil _ _ _ _ _ | exact Kd.S_nil _ _ _ _ _, atB HB⟩
 subst c6
 replace H := it_ H
 obtain ⟨t202, A7, H⟩ := bs_ H
 (try dsimp only at H)
 simp only [Option.some.injEq, Prod.mk.injEq] at H
 obtain ⟨rfl, rfl⟩ := H
 go_enter Try.func39, Try.ntmps39
 go_wp2_with (first | ((with_reducible refine gate_callee (f := 19) rfl ?_); refine goesA (some 7) Try.func19 #[.slice A0 l0.length c0] ?_; (with_reducible refine (Zag.calls k _ _ l0 true _ ?side1 ?side2 A3.out).mono ?_); (case side1 => repeat (first | exact HR0.out | (with_reducible refine Kd.C_alloc ?_ _) | (with_reducible refine Kd.C_drewN ?_ _) | (with_reducible refine Kd.C_drew ?_))); (case side2 => exact HC0.out); rintro e w' ⟨rfl, ⟨nd, rfl⟩⟩; refine ⟨_, rfl, ?_⟩) | (go_at_call 61; (with_reducible refine (Zby.calls k (l0.length : Int) _ _ l1 true _ ?side1 ?side2 A5.out).mono ?_); (case side1 => repeat (first | exact HR1.out | (with_reducible refine Kd.C_alloc ?_ _) | (with_reducible refine Kd.C_drewN ?_ _) | (with_reducible refine Kd.C_drew ?_))); (case side2 => exact HC1.out); rintro e w' ⟨rfl, ⟨nd, rfl⟩⟩) | ((with_reducible refine gate_callee (f := 62) rfl ?_); refine goesA (some 18) Try.func62 #[.slice A0 l0.length c0, .slice A1 l1.length c1] ?_; (with_reducible refine (Zay.calls k _ _ l0 _ _ l1 t202 _ ?side1 ?side2 ?side3 ?side4 A7.out).mono ?_); (case side1 => repeat (first | exact HR0.out | (with_reducible refine Kd.C_alloc ?_ _) | (with_reducible refine Kd.C_drewN ?_ _) | (with_reducible refine Kd.C_drew ?_))); (case side2 => exact HC0.out); (case side3 => repeat (first | exact HR1.out | (with_reducible refine Kd.C_alloc ?_ _) | (with_reducible refine Kd.C_drewN ?_ _) | (with_reducible refine Kd.C_drew ?_))); (case side4 => exact HC1.out); rintro e w8 ⟨v203, rfl, ho0, hb⟩; refine ⟨_, rfl, ?_⟩; have HO204 := lowR ho0 HB; replace HB := upB HB hb))
 go_ret2
 exact ⟨_, eqr, atR HO204, atB HB⟩
def Zbt.l0 : Nat → List Int → List Int → Int → Int → Option (Bool)
 | 0, _, _, _, _ => none
 | k + 1, x0, x5, x6, x7 => if x7 < x6 then (if 0 ≤ x7 then (if x7 < (x5.length : Int) then (if x7 ≤ (x0.length : Int) then ((Zah.f k (x0.take (x7 : Int).toNat) (rd x5 x7)).bind fun t207 => (if t207 = true then (some false) else (Zbt.l0 k x0 x5 x6 (wrap64 (x7 + 1))))) else (none)) else (none)) else (none)) else (some true)
def Zbt.f (k : Nat) (l0 : List Int) : Option (Bool) := Zbt.l0 k l0 l0 (l0.length : Int) 0
theorem Zbt.mono_l : ∀ k, (∀ y0 y1 y2 y3, LeO (Zbt.l0 k y0 y1 y2 y3) (Zbt.l0 (k + 1) y0 y1 y2 y3))
 | 0 => fun _ _ _ _ r h => by simp [Zbt.l0] at h
 | k + 1 => by
  have ih0 := Zbt.mono_l k
  ·intro y0 y1 y2 y3
   unfold Zbt.l0
   repeat' (first | (with_reducible first | exact ih0 _ _ _ _ | exact Zah.mono _ _ _ | exact LeO.refl _ | exact LeO.none _ | refine LeO.ite ?_ ?_ | refine LeO.bind ?_ (fun _ => ?_)) | exact ih0 _ _ _ _ | exact Zah.mono _ _ _ | exact LeO.none _ | refine LeO.ite ?_ ?_ | refine LeO.bind ?_ (fun _ => ?_))
theorem Zbt.mono : ∀ a0 k, LeO (Zbt.f k a0) (Zbt.f (k + 1) a0) := by
 intro a0 k
 have ih0 := Zbt.mono_l k
 unfold Zbt.f
 repeat' (first | (with_reducible first | exact ih0 _ _ _ _ | exact LeO.refl _ | exact LeO.none _ | refine LeO.ite ?_ ?_ | refine LeO.bind ?_ (fun _ => ?_)) | exact ih0 _ _ _ _ | exact LeO.none _ | refine LeO.ite ?_ ?_ | refine LeO.bind ?_ (fun _ => ?_))
theorem Zbt.calls (k : Nat) (A0 : Option Addr) (c0 : Nat) (l0 : List Int) (r : Bool) (w : World) (hr0 : Kd.C (Kd.int .i64) w A0 l0.length l0) (hc0 : l0.length ≤ c0) (h : Zbt.f k l0 = some r) :
  Calls Try.prog 40 #[.slice A0 l0.length c0] w fun e w' => e = .returned (.bool r) ∧ Drawn0 w w' := by
 have HR0 := Aside0.mk hr0
 have HC0 := Aside0.mk hc0
 clear hr0 hc0
 have H := h
 unfold Zbt.f at H
 clear h
 have H' := Aside0.mk H
 clear H
 go_enter Try.func40, Try.ntmps40
 go_wp2
 go_loopg [7] k (fun kq v7 w' => ∃ (x7_1 : Int), v7 = .int .i64 x7_1 ∧ Aside0 (Zbt.l0 kq l0 l0 (l0.length : Int) x7_1 = some r) ∧ Aside0 (kq ≤ k) ∧ Drawn0 w w')
 case atStart => exact ⟨(0), eqd, H', ⟨Nat.le_refl _⟩, by repeat (first | exact Drawn0.refl _ | apply Drawn0.step)⟩
 case round =>
  clear H'
  obtain ⟨x7_1, rfl, HA, HK1, ⟨m1, rfl⟩⟩ := hrel
  cases gk with
  | zero => exact absurd HA.out (by simp [Zbt.l0])
  | succ k1 =>
   have H := HA.out
   clear HA
   simp only [Zbt.l0] at H
   by_cases c2 : x7_1 < (l0.length : Int)
   rotate_left
   ·rw [if_neg c2] at H
    have c2b0 := decide_eq_false c2
    clear c2
    obtain rfl := Option.some.inj H
    go_wp2
    go_ret
    exact ⟨by first | rfl | (simp; done) | (simp [*]; done), by repeat (first | exact Drawn0.refl _ | apply Drawn0.step)⟩
   rw [if_pos c2] at H
   have c2b0 := decide_eq_true c2
   clear c2
   obtain ⟨c3b0, H⟩ := in_ H
   obtain ⟨c4b0, H⟩ := in_ H
   have c5b0 := eq_true (of_decide_eq_true (by first | (with_reducible assumption) | assumption) : 0 ≤ x7_1)
   obtain ⟨c6b0, c6b1, H⟩ := in2_ H
   obtain ⟨t207, A7, H⟩ := bs_ H
   (try dsimp only at H)
   by_cases c8 : t207 = true
   ·subst c8
    replace H := it_ H
    obtain rfl := Option.some.inj H
    have p205 : 0 ≤ (x7_1 : Int) := ofd
    have q205 : x7_1 < (l0.length : Int) := ofd
    obtain ⟨ad205, e205, hx205_0⟩ := Kd.at_int HR0.out x7_1 p205 q205
    cases e205
    replace p205 := eq_true p205
    replace q205 := eq_true q205
    obtain ⟨i09, hi09, _, hsz9, _⟩ := info_parts info3
    obtain ⟨hcut9, hA9, hC9⟩ := print_take_of (P := Try.prog) (Value.int .i64) 0 24 3 .i64 Try.underlying24 hi09 hsz9 (some ad205) c0 l0 x7_1 (of_decide_eq_true (by first | (with_reducible assumption) | assumption)) (of_decide_eq_true (by first | (with_reducible assumption) | assumption)) HC0.out
    have HR206 := Aside0.mk (Kd.C_of_reads (h1 := fun _ => rfl) (hA9 _ (Kd.reads_of_C HR0.out)))
    have HC206 := Aside0.mk hC9
    clear hA9 hC9 hi09 hsz9
    go_wp2_with (first | ((with_reducible refine gate_callee (f := 63) rfl ?_); refine goesL_ (some 16) rfl rfl Try.func63 (by kernel_rfl) rfl #[.slice (some ad205) (l0.take (x7_1 : Int).toNat).length c0, .int .i64 (rd l0 x7_1)] rfl (by (try simp only [List.map_toArray, List.map_cons, List.map_nil]); first | done | (rw [show (l0.take (x7_1 : Int).toNat).length = x7_1.toNat from (by rw [List.length_take]; have h_ : (x7_1 : Int) ≤ (l0.length : Int) := ofd; omega)] <;> rfl) | rfl | (simp only [List.length_drop, List.length_take]; rfl)) ?_; (with_reducible refine (Zah.calls k1 _ _ (l0.take (x7_1 : Int).toNat) (rd l0 x7_1) true _ ?side1 ?side2 A7.out).mono ?_); (case side1 => repeat (first | exact HR206.out | (with_reducible refine Kd.C_alloc ?_ _) | (with_reducible refine Kd.C_drewN ?_ _) | (with_reducible refine Kd.C_drew ?_))); (case side2 => exact HC206.out); rintro e w' ⟨rfl, ⟨nd, rfl⟩⟩; refine ⟨_, rfl, ?_⟩))
    go_ret
    exact ⟨by first | rfl | (simp; done) | (simp [*]; done), by repeat (first | exact Drawn0.refl _ | apply Drawn0.step)⟩
   ·replace c8 := Bool.eq_false_iff.mpr c8
    subst c8
    replace H := if_ H
    have H' := Aside0.mk H
    clear H
    have p205 : 0 ≤ (x7_1 : Int) := ofd
    have q205 : x7_1 < (l0.length : Int) := ofd
    obtain ⟨ad205, e205, hx205_0⟩ := Kd.at_int HR0.out x7_1 p205 q205
    cases e205
    replace p205 := eq_true p205
    replace q205 := eq_true q205
    obtain ⟨i010, hi010, _, hsz10, _⟩ := info_parts info3
    obtain ⟨hcut10, hA10, hC10⟩ := print_take_of (P := Try.prog) (Value.int .i64) 0 24 3 .i64 Try.underlying24 hi010 hsz10 (some ad205) c0 l0 x7_1 (of_decide_eq_true (by first | (with_reducible assumption) | assumption)) (of_decide_eq_true (by first | (with_reducible assumption) | assumption)) HC0.out
    have HR206 := Aside0.mk (Kd.C_of_reads (h1 := fun _ => rfl) (hA10 _ (Kd.reads_of_C HR0.out)))
    have HC206 := Aside0.mk hC10
    clear hA10 hC10 hi010 hsz10
    go_wp2_with (first | ((with_reducible refine gate_callee (f := 63) rfl ?_); refine goesL_ (some 16) rfl rfl Try.func63 (by kernel_rfl) rfl #[.slice (some ad205) (l0.take (x7_1 : Int).toNat).length c0, .int .i64 (rd l0 x7_1)] rfl (by (try simp only [List.map_toArray, List.map_cons, List.map_nil]); first | done | (rw [show (l0.take (x7_1 : Int).toNat).length = x7_1.toNat from (by rw [List.length_take]; have h_ : (x7_1 : Int) ≤ (l0.length : Int) := ofd; omega)] <;> rfl) | rfl | (simp only [List.length_drop, List.length_take]; rfl)) ?_; (with_reducible refine (Zah.calls k1 _ _ (l0.take (x7_1 : Int).toNat) (rd l0 x7_1) false _ ?side1 ?side2 A7.out).mono ?_); (case side1 => repeat (first | exact HR206.out | (with_reducible refine Kd.C_alloc ?_ _) | (with_reducible refine Kd.C_drewN ?_ _) | (with_reducible refine Kd.C_drew ?_))); (case side2 => exact HC206.out); rintro e w' ⟨rfl, ⟨nd, rfl⟩⟩; refine ⟨_, rfl, ?_⟩))
    go_roundg k1
    case measure => have := HK1.out; omega
    case rel => exact ⟨(wrap64 (x7_1 + 1)), eqd, H', ⟨by have := HK1.out; omega⟩, by repeat (first | exact Drawn0.refl _ | apply Drawn0.step)⟩
noncomputable def Zbt.F (l0 : List Int) : Option (Bool) := lim fun k => Zbt.f k l0
theorem Zbt.F_lim (l0 : List Int) : Lim (fun k => Zbt.f k l0) (Zbt.F l0) := Lim.of fun k => Zbt.mono l0 k
def Zbq.f (k : Nat) (l0 : List Int) (l1 : List Int) : Option (Bool × Bool) := (Zcr.f k l0 l1).bind fun bt208 => (if bt208.2 = true then ((Zbt.f k bt208.1).bind fun t212 => (some (t212, true))) else (some (false, false)))
theorem Zbq.mono : ∀ a0 a1 k, LeO (Zbq.f k a0 a1) (Zbq.f (k + 1) a0 a1) := by
 intro a0 a1 k
 unfold Zbq.f
 repeat' (first | (with_reducible first | exact Zcr.mono _ _ _ | exact Zbt.mono _ _ | exact LeO.refl _ | exact LeO.none _ | refine LeO.ite ?_ ?_ | refine LeO.bind ?_ (fun _ => ?_)) | exact Zcr.mono _ _ _ | exact Zbt.mono _ _ | exact LeO.none _ | refine LeO.ite ?_ ?_ | refine LeO.bind ?_ (fun _ => ?_))
theorem Zbq.calls (k : Nat) (A0 : Option Addr) (c0 : Nat) (l0 : List Int) (A1 : Option Addr) (c1 : Nat) (l1 : List Int) (r1 : Bool) (r2 : Bool) (w : World) (hr0 : Kd.C (Kd.int .i64) w A0 l0.length l0) (hc0 : l0.length ≤ c0) (hr1 : Kd.C (Kd.int .i64) w A1 l1.length l1) (hc1 : l1.length ≤ c1) (h : Zbq.f k l0 l1 = some (r1, r2)) :
  Calls Try.prog 11 #[.slice A0 l0.length c0, .slice A1 l1.length c1] w fun e w' => e = .returned (.tuple #[.bool r1, .bool r2]) ∧ Below w.heap.size w w' := by
 have HR0 := Aside0.mk hr0
 have HC0 := Aside0.mk hc0
 clear hr0 hc0
 have HR1 := Aside0.mk hr1
 have HC1 := Aside0.mk hc1
 clear hr1 hc1
 have HB := Aside0.mk (Below.refl w.heap.size w)
 have H := h
 unfold Zbq.f at H
 clear h
 replace H := Option.bind_eq_some_iff.mp H
 obtain ⟨⟨t208, t209⟩, A30, H⟩ := H
 replace H : (if t209 = true then ((Zbt.f k t208).bind fun t212 => (some (t212, true))) else (some (false, false))) = some (r1, r2) := H
 have A3 := Aside0.mk A30
 clear A30
 by_cases c4 : t209 = true
 rotate_left
 ·replace c4 := Bool.eq_false_iff.mpr c4
  subst c4
  replace H := if_ H
  simp only [Option.some.injEq, Prod.mk.injEq] at H
  obtain ⟨rfl, rfl⟩ := H
  go_enter Try.func11, Try.ntmps11
  go_wp2_with (first | ((with_reducible refine gate_callee (f := 39) rfl ?_); refine goesA (some 11) Try.func39 #[.slice A0 l0.length c0, .slice A1 l1.length c1] ?_; (with_reducible refine (Zcr.calls k _ _ l0 _ _ l1 t208 false _ ?side1 ?side2 ?side3 ?side4 A3.out).mono ?_); (case side1 => repeat (first | exact HR0.out | (with_reducible refine Kd.C_alloc ?_ _) | (with_reducible refine Kd.C_drewN ?_ _) | (with_reducible refine Kd.C_drew ?_))); (case side2 => exact HC0.out); (case side3 => repeat (first | exact HR1.out | (with_reducible refine Kd.C_alloc ?_ _) | (with_reducible refine Kd.C_drewN ?_ _) | (with_reducible refine Kd.C_drew ?_))); (case side4 => exact HC1.out); rintro e w8 ⟨v210, rfl, ho0, hb⟩; refine ⟨_, rfl, ?_⟩; have HO211 := lowR ho0 HB; replace HB := upB HB hb))
  go_ret2
  exact ⟨eqr, atB HB⟩
 subst c4
 replace H := it_ H
 obtain ⟨t212, A5, H⟩ := bs_ H
 (try dsimp only at H)
 simp only [Option.some.injEq, Prod.mk.injEq] at H
 obtain ⟨rfl, rfl⟩ := H
 go_enter Try.func11, Try.ntmps11
 go_wp2_with (first | ((with_reducible refine gate_callee (f := 39) rfl ?_); refine goesA (some 11) Try.func39 #[.slice A0 l0.length c0, .slice A1 l1.length c1] ?_; (with_reducible refine (Zcr.calls k _ _ l0 _ _ l1 t208 true _ ?side1 ?side2 ?side3 ?side4 A3.out).mono ?_); (case side1 => repeat (first | exact HR0.out | (with_reducible refine Kd.C_alloc ?_ _) | (with_reducible refine Kd.C_drewN ?_ _) | (with_reducible refine Kd.C_drew ?_))); (case side2 => exact HC0.out); (case side3 => repeat (first | exact HR1.out | (with_reducible refine Kd.C_alloc ?_ _) | (with_reducible refine Kd.C_drewN ?_ _) | (with_reducible refine Kd.C_drew ?_))); (case side4 => exact HC1.out); rintro e w6 ⟨v210, rfl, ho0, hb⟩; refine ⟨_, rfl, ?_⟩; have HO211 := lowR ho0 HB; replace HB := upB HB hb; obtain ⟨Ao7, co7, eo7⟩ := Kd.R_slice HO211.out; subst eo7) | ((with_reducible refine gate_callee (f := 40) rfl ?_); refine goesA (some 17) Try.func40 #[.slice Ao7 t208.length co7] ?_; (with_reducible refine (Zbt.calls k _ _ t208 t212 _ ?side1 ?side2 A5.out).mono ?_); (case side1 => exact atRC HO211); (case side2 => exact (Kd.R_reads' HO211.out).2.1); rintro e w' ⟨rfl, ⟨nd, rfl⟩⟩; refine ⟨_, rfl, ?_⟩))
 go_ret2
 exact ⟨eqr, atB HB⟩
noncomputable def Zbq.F (l0 : List Int) (l1 : List Int) : Option (Bool × Bool) := lim fun k => Zbq.f k l0 l1
theorem Zbq.F_lim (l0 : List Int) (l1 : List Int) : Lim (fun k => Zbq.f k l0 l1) (Zbq.F l0 l1) := Lim.of fun k => Zbq.mono l0 l1 k
mutual
def Zap.j0 : Nat → List Int → List Int → Bool → Option (Int × Bool)
 | 0, _, _, _ => none
 | k + 1, x0, x1, x29 => if x29 = true then (some (0, false)) else (Zap.l0 k x0 x1 (x0.length : Int) 0)
def Zap.l0 : Nat → List Int → List Int → Int → Int → Option (Int × Bool)
 | 0, _, _, _, _ => none
 | k + 1, x0, x1, x31, x32 => if x32 < x31 then (Zap.l1 k x0 x1 x32 true 1 x31 x32) else (some (0, false))
def Zap.l1 : Nat → List Int → List Int → Int → Bool → Int → Int → Int → Option (Int × Bool)
 | 0, _, _, _, _, _, _, _ => none
 | k + 1, x0, x1, x8, x9, x10, x31, x32 => if x10 < (x0.length : Int) then (if 0 ≤ x10 then (if x10 < (x1.length : Int) then (if 0 ≤ (rd x0 x10) then (if (rd x0 x10) < (x1.length : Int) then (if x9 = true then (if (mn (rd x1 x10) (rd x1 (rd x0 x10))) ≤ x8 then (Zap.l1 k x0 x1 x8 (decide ((mx (rd x1 x10) (rd x1 (rd x0 x10))) > x8)) (wrap64 (x10 + 1)) x31 x32) else (Zap.l1 k x0 x1 x8 false (wrap64 (x10 + 1)) x31 x32)) else (Zap.l1 k x0 x1 x8 false (wrap64 (x10 + 1)) x31 x32)) else (none)) else (none)) else (none)) else (none)) else (if x9 = true then (some (x8, true)) else (Zap.l0 k x0 x1 x31 (wrap64 (x32 + 1))))
end
def Zap.f (k : Nat) (l0 : List Int) (l1 : List Int) : Option (Int × Bool) := (Zbq.f k l0 l1).bind fun bt236 => (if bt236.2 = true then (if bt236.1 = true then (Zap.j0 k l0 l1 (decide ((l0.length : Int) < 2))) else (Zap.j0 k l0 l1 true)) else (Zap.j0 k l0 l1 true))
theorem Zap.mono_l : ∀ k, (∀ y0 y1 y2, LeO (Zap.j0 k y0 y1 y2) (Zap.j0 (k + 1) y0 y1 y2)) ∧ (∀ y0 y1 y2 y3, LeO (Zap.l0 k y0 y1 y2 y3) (Zap.l0 (k + 1) y0 y1 y2 y3)) ∧ (∀ y0 y1 y2 y3 y4 y5 y6, LeO (Zap.l1 k y0 y1 y2 y3 y4 y5 y6) (Zap.l1 (k + 1) y0 y1 y2 y3 y4 y5 y6))
 | 0 => ⟨fun _ _ _ r h => by simp [Zap.j0] at h, fun _ _ _ _ r h => by simp [Zap.l0] at h, fun _ _ _ _ _ _ _ r h => by simp [Zap.l1] at h⟩
 | k + 1 => by
  obtain ⟨ih0, ih1, ih2⟩ := Zap.mono_l k
  refine ⟨?_, ?_, ?_⟩
  ·intro y0 y1 y2
   unfold Zap.j0
   repeat' (first | (with_reducible first | exact ih1 _ _ _ _ | exact LeO.refl _ | exact LeO.none _ | refine LeO.ite ?_ ?_ | refine LeO.bind ?_ (fun _ => ?_)) | exact ih1 _ _ _ _ | exact LeO.none _ | refine LeO.ite ?_ ?_ | refine LeO.bind ?_ (fun _ => ?_))
  ·intro y0 y1 y2 y3
   unfold Zap.l0
   repeat' (first | (with_reducible first | exact ih2 _ _ _ _ _ _ _ | exact LeO.refl _ | exact LeO.none _ | refine LeO.ite ?_ ?_ | refine LeO.bind ?_ (fun _ => ?_)) | exact ih2 _ _ _ _ _ _ _ | exact LeO.none _ | refine LeO.ite ?_ ?_ | refine LeO.bind ?_ (fun _ => ?_))
  ·intro y0 y1 y2 y3 y4 y5 y6
   unfold Zap.l1
   repeat' (first | (with_reducible first | exact ih1 _ _ _ _ | exact ih2 _ _ _ _ _ _ _ | exact LeO.refl _ | exact LeO.none _ | refine LeO.ite ?_ ?_ | refine LeO.bind ?_ (fun _ => ?_)) | exact ih1 _ _ _ _ | exact ih2 _ _ _ _ _ _ _ | exact LeO.none _ | refine LeO.ite ?_ ?_ | refine LeO.bind ?_ (fun _ => ?_))
theorem Zap.mono : ∀ a0 a1 k, LeO (Zap.f k a0 a1) (Zap.f (k + 1) a0 a1) := by
 intro a0 a1 k
 obtain ⟨ih0, ih1, ih2⟩ := Zap.mono_l k
 unfold Zap.f
 repeat' (first | (with_reducible first | exact ih0 _ _ _ | exact Zbq.mono _ _ _ | exact LeO.refl _ | exact LeO.none _ | refine LeO.ite ?_ ?_ | refine LeO.bind ?_ (fun _ => ?_)) | exact ih0 _ _ _ | exact Zbq.mono _ _ _ | exact LeO.none _ | refine LeO.ite ?_ ?_ | refine LeO.bind ?_ (fun _ => ?_))
theorem Zap.calls (k : Nat) (A0 : Option Addr) (c0 : Nat) (l0 : List Int) (A1 : Option Addr) (c1 : Nat) (l1 : List Int) (r1 : Int) (r2 : Bool) (w : World) (hr0 : Kd.C (Kd.int .i64) w A0 l0.length l0) (hc0 : l0.length ≤ c0) (hr1 : Kd.C (Kd.int .i64) w A1 l1.length l1) (hc1 : l1.length ≤ c1) (h : Zap.f k l0 l1 = some (r1, r2)) :
  Calls Try.prog 13 #[.slice A0 l0.length c0, .slice A1 l1.length c1] w fun e w' => e = .returned (.tuple #[.int .i64 r1, .bool r2]) ∧ Below w.heap.size w w' := by
 have HR0 := Aside0.mk hr0
 have HC0 := Aside0.mk hc0
 clear hr0 hc0
 have HR1 := Aside0.mk hr1
 have HC1 := Aside0.mk hc1
 clear hr1 hc1
 have HB := Aside0.mk (Below.refl w.heap.size w)
 have H := h
 unfold Zap.f at H
 clear h
 replace H := Option.bind_eq_some_iff.mp H
 obtain ⟨⟨t236, t237⟩, A30, H⟩ := H
 replace H : (if t237 = true then (if t236 = true then (Zap.j0 k l0 l1 (decide ((l0.length : Int) < 2))) else (Zap.j0 k l0 l1 true)) else (Zap.j0 k l0 l1 true)) = some (r1, r2) := H
 have A3 := Aside0.mk A30
 clear A30
 have HC4 := Aside0.mk H
 clear H
 go_enter Try.func13, Try.ntmps13
 go_upto_region 2 with (first | (go_at_call 11; (with_reducible refine (Zbq.calls k _ _ l0 _ _ l1 t236 t237 _ ?side1 ?side2 ?side3 ?side4 A3.out).mono ?_); (case side1 => repeat (first | exact HR0.out | (with_reducible refine Kd.C_alloc ?_ _) | (with_reducible refine Kd.C_drewN ?_ _) | (with_reducible refine Kd.C_drew ?_))); (case side2 => exact HC0.out); (case side3 => repeat (first | exact HR1.out | (with_reducible refine Kd.C_alloc ?_ _) | (with_reducible refine Kd.C_drewN ?_ _) | (with_reducible refine Kd.C_drew ?_))); (case side4 => exact HC1.out); rintro e w5 ⟨rfl, hb⟩; replace HB := upB HB hb))
 repeat (go_quiet (first | (go_at_call 11; (with_reducible refine (Zbq.calls k _ _ l0 _ _ l1 t236 t237 _ ?side1 ?side2 ?side3 ?side4 A3.out).mono ?_); (case side1 => repeat (first | exact HR0.out | (with_reducible refine Kd.C_alloc ?_ _) | (with_reducible refine Kd.C_drewN ?_ _) | (with_reducible refine Kd.C_drew ?_))); (case side2 => exact HC0.out); (case side3 => repeat (first | exact HR1.out | (with_reducible refine Kd.C_alloc ?_ _) | (with_reducible refine Kd.C_drewN ?_ _) | (with_reducible refine Kd.C_drew ?_))); (case side4 => exact HC1.out); rintro e w5 ⟨rfl, hb⟩; replace HB := upB HB hb)); go_upto_region 2 with (first | (go_at_call 11; (with_reducible refine (Zbq.calls k _ _ l0 _ _ l1 t236 t237 _ ?side1 ?side2 ?side3 ?side4 A3.out).mono ?_); (case side1 => repeat (first | exact HR0.out | (with_reducible refine Kd.C_alloc ?_ _) | (with_reducible refine Kd.C_drewN ?_ _) | (with_reducible refine Kd.C_drew ?_))); (case side2 => exact HC0.out); (case side3 => repeat (first | exact HR1.out | (with_reducible refine Kd.C_alloc ?_ _) | (with_reducible refine Kd.C_drewN ?_ _) | (with_reducible refine Kd.C_drew ?_))); (case side4 => exact HC1.out); rintro e w5 ⟨rfl, hb⟩; replace HB := upB HB hb)))
 (try simp only [Act.put, List.setIfInBounds_toArray, List.set_cons_zero, List.set_cons_succ])
 go_cut [29] (fun v29 wc => ∃ (kq : Nat) (x29_3 : Bool), v29 = .bool x29_3 ∧ Aside0 (Zap.j0 kq l0 l1 x29_3 = some (r1, r2)) ∧ Aside0 (kq ≤ k) ∧ Aside0 (Below w.heap.size w wc))
 case first =>
  have H := HC4.out
  clear HC4
  by_cases c6 : t237 = true
  rotate_left
  ·replace c6 := Bool.eq_false_iff.mpr c6
   subst c6
   replace H := if_ H
   have H' := Aside0.mk H
   clear H
   go_wp2
   repeat (go_quiet (fail); try go_wp2)
   go_meet
   case rel => exact ⟨_, (true), eqd, H', ⟨leD⟩, ⟨atB HB⟩⟩
  subst c6
  replace H := it_ H
  by_cases c7 : t236 = true
  rotate_left
  ·replace c7 := Bool.eq_false_iff.mpr c7
   subst c7
   replace H := if_ H
   have H' := Aside0.mk H
   clear H
   go_wp2
   repeat (go_quiet (fail); try go_wp2)
   go_meet
   case rel => exact ⟨_, (true), eqd, H', ⟨leD⟩, ⟨atB HB⟩⟩
  subst c7
  replace H := it_ H
  have H' := Aside0.mk H
  clear H
  go_wp2
  repeat (go_quiet (fail); try go_wp2)
  go_meet
  case rel => exact ⟨_, (decide ((l0.length : Int) < 2)), eqd, H', ⟨leD⟩, ⟨atB HB⟩⟩
 case rest =>
  clear HC4
  try clear c1
  obtain ⟨kq, x29_3, rfl, HA, HJ3, HB⟩ := hcut
  cases kq with
  | zero => exact absurd HA.out (by simp [Zap.j0])
  | succ kj3 =>
   have H := HA.out
   clear HA
   simp only [Zap.j0] at H
   by_cases c8 : x29_3 = true
   ·subst c8
    replace H := it_ H
    simp only [Option.some.injEq, Prod.mk.injEq] at H
    obtain ⟨rfl, rfl⟩ := H
    go_wp2
    repeat (go_quiet (fail); try go_wp2)
    go_ret2
    exact ⟨eqr, atB HB⟩
   replace c8 := Bool.eq_false_iff.mpr c8
   subst c8
   replace H := if_ H
   have H' := Aside0.mk H
   clear H
   go_wp2
   repeat (go_quiet (fail); try go_wp2)
   go_loopg [32] kj3 (fun kq v32 w' => ∃ (x32_2 : Int), v32 = .int .i64 x32_2 ∧ Aside0 (Zap.l0 kq l0 l1 (l0.length : Int) x32_2 = some (r1, r2)) ∧ Aside0 (kq ≤ kj3) ∧ Aside0 (Below w.heap.size w w'))
   case atStart => exact ⟨(0), eqd, H', ⟨Nat.le_refl _⟩, ⟨atB HB⟩⟩
   case round =>
    clear H'
    try clear c8
    obtain ⟨x32_2, rfl, HA, HK2, HB⟩ := hrel
    cases gk with
    | zero => exact absurd HA.out (by simp [Zap.l0])
    | succ k2 =>
     have H := HA.out
     clear HA
     simp only [Zap.l0] at H
     by_cases c9 : x32_2 < (l0.length : Int)
     rotate_left
     ·rw [if_neg c9] at H
      have c9b0 := decide_eq_false c9
      clear c9
      simp only [Option.some.injEq, Prod.mk.injEq] at H
      obtain ⟨rfl, rfl⟩ := H
      go_wp2
      repeat (go_quiet (fail); try go_wp2)
      go_ret2
      exact ⟨eqr, atB HB⟩
     rw [if_pos c9] at H
     have c9b0 := decide_eq_true c9
     clear c9
     have H' := Aside0.mk H
     clear H
     go_wp2
     repeat (go_quiet (fail); try go_wp2)
     go_loopg [9, 10] k2 (fun kq v9 v10 w' => ∃ (x9_3 : Bool) (x10_3 : Int), v9 = .bool x9_3 ∧ v10 = .int .i64 x10_3 ∧ Aside0 (Zap.l1 kq l0 l1 x32_2 x9_3 x10_3 (l0.length : Int) x32_2 = some (r1, r2)) ∧ Aside0 (kq ≤ k2) ∧ Aside0 (Below w.heap.size w w'))
     case atStart => exact ⟨(true), (1), eqd, eqd, H', ⟨Nat.le_refl _⟩, ⟨atB HB⟩⟩
     case round =>
      clear H'
      try clear c9b0
      obtain ⟨x9_3, x10_3, rfl, rfl, HA, HK3, HB⟩ := hrel
      cases gk with
      | zero => exact absurd HA.out (by simp [Zap.l1])
      | succ k3 =>
       have H := HA.out
       clear HA
       simp only [Zap.l1] at H
       by_cases c10 : x10_3 < (l0.length : Int)
       ·rw [if_pos c10] at H
        have c10b0 := decide_eq_true c10
        clear c10
        obtain ⟨c11b0, H⟩ := in_ H
        obtain ⟨c12b0, H⟩ := in_ H
        obtain ⟨c13b0, H⟩ := in_ H
        obtain ⟨c14b0, H⟩ := in_ H
        by_cases c15 : x9_3 = true
        ·subst c15
         replace H := it_ H
         obtain ⟨ji16, hji16⟩ : ∃ j_ : Int, (mn (rd l1 x10_3) (rd l1 (rd l0 x10_3))) = j_ := ⟨_, rfl⟩
         replace H : (if (ji16) ≤ x32_2 then (Zap.l1 k3 l0 l1 x32_2 (decide ((mx (rd l1 x10_3) (rd l1 (rd l0 x10_3))) > x32_2)) (wrap64 (x10_3 + 1)) (l0.length : Int) x32_2) else (Zap.l1 k3 l0 l1 x32_2 false (wrap64 (x10_3 + 1)) (l0.length : Int) x32_2)) = some (r1, r2) := by first | (rw [hji16] at H; exact H) | (simp only [hji16] at H ⊢; exact H)
         have hji16_ : (if (rd l1 (rd l0 x10_3)) < (rd l1 x10_3) then (rd l1 (rd l0 x10_3)) else (rd l1 x10_3)) = ji16 := hji16
         by_cases c17 : (ji16) ≤ x32_2
         ·rw [if_pos c17] at H
          have c17b0 := decide_eq_true c17
          clear c17
          obtain ⟨ji18, hji18⟩ : ∃ j_ : Int, (mx (rd l1 x10_3) (rd l1 (rd l0 x10_3))) = j_ := ⟨_, rfl⟩
          replace H : (Zap.l1 k3 l0 l1 x32_2 (decide ((ji18) > x32_2)) (wrap64 (x10_3 + 1)) (l0.length : Int) x32_2) = some (r1, r2) := by first | (rw [hji18] at H; exact H) | (simp only [hji18] at H ⊢; exact H)
          have hji18_ : (if (rd l1 x10_3) < (rd l1 (rd l0 x10_3)) then (rd l1 (rd l0 x10_3)) else (rd l1 x10_3)) = ji18 := hji18
          have H' := Aside0.mk H
          clear H
          have p238 : 0 ≤ (x10_3 : Int) := ofd
          have q238 : x10_3 < (l1.length : Int) := ofd
          obtain ⟨ad238, e238, hx238_0⟩ := Kd.at_int HR1.out x10_3 p238 q238
          cases e238
          (try replace hx238_0 := (HB.out.cell (World.block_lt_of_cell? w _ hx238_0)).trans hx238_0)
          replace p238 := eq_true p238
          replace q238 := eq_true q238
          have p239 : 0 ≤ (x10_3 : Int) := ofd
          have q239 : x10_3 < (l0.length : Int) := ofd
          obtain ⟨ad239, e239, hx239_0⟩ := Kd.at_int HR0.out x10_3 p239 q239
          cases e239
          (try replace hx239_0 := (HB.out.cell (World.block_lt_of_cell? w _ hx239_0)).trans hx239_0)
          replace p239 := eq_true p239
          replace q239 := eq_true q239
          have p240 : 0 ≤ ((rd l0 x10_3) : Int) := ofd
          have q240 : (rd l0 x10_3) < (l1.length : Int) := ofd
          obtain ⟨ad240, e240, hx240_0⟩ := Kd.at_int HR1.out (rd l0 x10_3) p240 q240
          obtain rfl : ad238 = ad240 := (by injection e240)
          (try replace hx240_0 := (HB.out.cell (World.block_lt_of_cell? w _ hx240_0)).trans hx240_0)
          replace p240 := eq_true p240
          replace q240 := eq_true q240
          go_wp2
          repeat (go_quiet (fail); try go_wp2)
          first | go_roundg k3 | ((try subst hji18); (try subst hji16); go_roundg k3)
          case measure => have := HJ3.out; have := HK2.out; have := HK3.out; omega
          case rel => exact ⟨(decide ((ji18) > x32_2)), (wrap64 (x10_3 + 1)), (by first | rfl | (simp; done) | (simp only [← hji18] <;> (first | rfl | simp)) | (simp [*]; done)), eqd, H', ⟨by have := HJ3.out; have := HK2.out; have := HK3.out; omega⟩, ⟨atB HB⟩⟩
         ·rw [if_neg c17] at H
          have c17b0 := decide_eq_false c17
          clear c17
          have H' := Aside0.mk H
          clear H
          have p238 : 0 ≤ (x10_3 : Int) := ofd
          have q238 : x10_3 < (l1.length : Int) := ofd
          obtain ⟨ad238, e238, hx238_0⟩ := Kd.at_int HR1.out x10_3 p238 q238
          cases e238
          (try replace hx238_0 := (HB.out.cell (World.block_lt_of_cell? w _ hx238_0)).trans hx238_0)
          replace p238 := eq_true p238
          replace q238 := eq_true q238
          have p239 : 0 ≤ (x10_3 : Int) := ofd
          have q239 : x10_3 < (l0.length : Int) := ofd
          obtain ⟨ad239, e239, hx239_0⟩ := Kd.at_int HR0.out x10_3 p239 q239
          cases e239
          (try replace hx239_0 := (HB.out.cell (World.block_lt_of_cell? w _ hx239_0)).trans hx239_0)
          replace p239 := eq_true p239
          replace q239 := eq_true q239
          have p240 : 0 ≤ ((rd l0 x10_3) : Int) := ofd
          have q240 : (rd l0 x10_3) < (l1.length : Int) := ofd
          obtain ⟨ad240, e240, hx240_0⟩ := Kd.at_int HR1.out (rd l0 x10_3) p240 q240
          obtain rfl : ad238 = ad240 := (by injection e240)
          (try replace hx240_0 := (HB.out.cell (World.block_lt_of_cell? w _ hx240_0)).trans hx240_0)
          replace p240 := eq_true p240
          replace q240 := eq_true q240
          go_wp2
          repeat (go_quiet (fail); try go_wp2)
          first | go_roundg k3 | ((try subst hji16); go_roundg k3)
          case measure => have := HJ3.out; have := HK2.out; have := HK3.out; omega
          case rel => exact ⟨(false), (wrap64 (x10_3 + 1)), eqd, eqd, H', ⟨by have := HJ3.out; have := HK2.out; have := HK3.out; omega⟩, ⟨atB HB⟩⟩
        ·replace c15 := Bool.eq_false_iff.mpr c15
         subst c15
         replace H := if_ H
         have H' := Aside0.mk H
         clear H
         have p238 : 0 ≤ (x10_3 : Int) := ofd
         have q238 : x10_3 < (l1.length : Int) := ofd
         obtain ⟨ad238, e238, hx238_0⟩ := Kd.at_int HR1.out x10_3 p238 q238
         cases e238
         (try replace hx238_0 := (HB.out.cell (World.block_lt_of_cell? w _ hx238_0)).trans hx238_0)
         replace p238 := eq_true p238
         replace q238 := eq_true q238
         have p239 : 0 ≤ (x10_3 : Int) := ofd
         have q239 : x10_3 < (l0.length : Int) := ofd
         obtain ⟨ad239, e239, hx239_0⟩ := Kd.at_int HR0.out x10_3 p239 q239
         cases e239
         (try replace hx239_0 := (HB.out.cell (World.block_lt_of_cell? w _ hx239_0)).trans hx239_0)
         replace p239 := eq_true p239
         replace q239 := eq_true q239
         have p240 : 0 ≤ ((rd l0 x10_3) : Int) := ofd
         have q240 : (rd l0 x10_3) < (l1.length : Int) := ofd
         obtain ⟨ad240, e240, hx240_0⟩ := Kd.at_int HR1.out (rd l0 x10_3) p240 q240
         obtain rfl : ad238 = ad240 := (by injection e240)
         (try replace hx240_0 := (HB.out.cell (World.block_lt_of_cell? w _ hx240_0)).trans hx240_0)
         replace p240 := eq_true p240
         replace q240 := eq_true q240
         go_wp2
         repeat (go_quiet (fail); try go_wp2)
         go_roundg k3
         case measure => have := HJ3.out; have := HK2.out; have := HK3.out; omega
         case rel => exact ⟨(false), (wrap64 (x10_3 + 1)), eqd, eqd, H', ⟨by have := HJ3.out; have := HK2.out; have := HK3.out; omega⟩, ⟨atB HB⟩⟩
       ·rw [if_neg c10] at H
        have c10b0 := decide_eq_false c10
        clear c10
        by_cases c19 : x9_3 = true
        rotate_left
        ·replace c19 := Bool.eq_false_iff.mpr c19
         subst c19
         replace H := if_ H
         have H' := Aside0.mk H
         clear H
         go_wp2
         repeat (go_quiet (fail); try go_wp2)
         go_roundg k3
         case measure => have := HJ3.out; have := HK2.out; have := HK3.out; omega
         case rel => exact ⟨(wrap64 (x32_2 + 1)), eqd, H', ⟨by have := HJ3.out; have := HK2.out; have := HK3.out; omega⟩, ⟨atB HB⟩⟩
        subst c19
        replace H := it_ H
        simp only [Option.some.injEq, Prod.mk.injEq] at H
        obtain ⟨rfl, rfl⟩ := H
        go_wp2
        repeat (go_quiet (fail); try go_wp2)
        go_ret2
        exact ⟨eqr, atB HB⟩
noncomputable def Zap.F (l0 : List Int) (l1 : List Int) : Option (Int × Bool) := lim fun k => Zap.f k l0 l1
theorem Zap.F_lim (l0 : List Int) (l1 : List Int) : Lim (fun k => Zap.f k l0 l1) (Zap.F l0 l1) := Lim.of fun k => Zap.mono l0 l1 k
def Zcc.f (a0 : Int) (a1 : Int) (a2 : Int) : Option (Bool) := if a0 ≥ a1 then (some (decide (a0 ≤ a2))) else (some false)
theorem Zcc.calls (a0 : Int) (a1 : Int) (a2 : Int) (r : Bool) (w : World) (h : Zcc.f a0 a1 a2 = some r) :
  Calls Try.prog 44 #[.int .i64 a0, .int .i64 a1, .int .i64 a2] w fun e w' => e = .returned (.bool r) ∧ Drawn0 w w' := by
 have H := h
 unfold Zcc.f at H
 clear h
 by_cases c4 : a0 ≥ a1
 rotate_left
 ·rw [if_neg c4] at H
  have c4b0 := decide_eq_false c4
  clear c4
  obtain rfl := Option.some.inj H
  go_enter Try.func44, Try.ntmps44
  go_wp2
  go_ret
  exact ⟨by first | rfl | (simp; done) | (simp [*]; done), by repeat (first | exact Drawn0.refl _ | apply Drawn0.step)⟩
 rw [if_pos c4] at H
 have c4b0 := decide_eq_true c4
 clear c4
 obtain rfl := Option.some.inj H
 go_enter Try.func44, Try.ntmps44
 go_wp2
 go_ret
 exact ⟨by first | rfl | (simp; done) | (simp [*]; done), by repeat (first | exact Drawn0.refl _ | apply Drawn0.step)⟩
def Zba.l0 : Nat → Int → Int → List Int → Int → Int → Option (Bool)
 | 0, _, _, _, _, _ => none
 | k + 1, x1, x2, x9, x10, x11 => if x11 < x10 then (if 0 ≤ x11 then (if x11 < (x9.length : Int) then ((Zcc.f (rd x9 x11) x1 x2).bind fun t142 => (if t142 = true then (Zba.l0 k x1 x2 x9 x10 (wrap64 (x11 + 1))) else (some false))) else (none)) else (none)) else (some true)
def Zba.f (k : Nat) (l0 : List Int) (a1 : Int) (a2 : Int) : Option (Bool) := Zba.l0 k a1 a2 l0 (l0.length : Int) 0
theorem Zba.mono_l : ∀ k, (∀ y0 y1 y2 y3 y4, LeO (Zba.l0 k y0 y1 y2 y3 y4) (Zba.l0 (k + 1) y0 y1 y2 y3 y4))
 | 0 => fun _ _ _ _ _ r h => by simp [Zba.l0] at h
 | k + 1 => by
  have ih0 := Zba.mono_l k
  ·intro y0 y1 y2 y3 y4
   unfold Zba.l0
   repeat' (first | (with_reducible first | exact ih0 _ _ _ _ _ | exact LeO.refl _ | exact LeO.none _ | refine LeO.ite ?_ ?_ | refine LeO.bind ?_ (fun _ => ?_)) | exact ih0 _ _ _ _ _ | exact LeO.none _ | refine LeO.ite ?_ ?_ | refine LeO.bind ?_ (fun _ => ?_))
theorem Zba.mono : ∀ a0 a1 a2 k, LeO (Zba.f k a0 a1 a2) (Zba.f (k + 1) a0 a1 a2) := by
 intro a0 a1 a2 k
 have ih0 := Zba.mono_l k
 unfold Zba.f
 repeat' (first | (with_reducible first | exact ih0 _ _ _ _ _ | exact LeO.refl _ | exact LeO.none _ | refine LeO.ite ?_ ?_ | refine LeO.bind ?_ (fun _ => ?_)) | exact ih0 _ _ _ _ _ | exact LeO.none _ | refine LeO.ite ?_ ?_ | refine LeO.bind ?_ (fun _ => ?_))
theorem Zba.calls (k : Nat) (A0 : Option Addr) (c0 : Nat) (l0 : List Int) (a1 : Int) (a2 : Int) (r : Bool) (w : World) (hr0 : Kd.C (Kd.int .i64) w A0 l0.length l0) (hc0 : l0.length ≤ c0) (h : Zba.f k l0 a1 a2 = some r) :
  Calls Try.prog 50 #[.slice A0 l0.length c0, .int .i64 a1, .int .i64 a2] w fun e w' => e = .returned (.bool r) ∧ Drawn0 w w' := by
 have HR0 := Aside0.mk hr0
 have HC0 := Aside0.mk hc0
 clear hr0 hc0
 have H := h
 unfold Zba.f at H
 clear h
 have H' := Aside0.mk H
 clear H
 go_enter Try.func50, Try.ntmps50
 go_wp2
 go_loopg [11] k (fun kq v11 w' => ∃ (x11_1 : Int), v11 = .int .i64 x11_1 ∧ Aside0 (Zba.l0 kq a1 a2 l0 (l0.length : Int) x11_1 = some r) ∧ Aside0 (kq ≤ k) ∧ Drawn0 w w')
 case atStart => exact ⟨(0), eqd, H', ⟨Nat.le_refl _⟩, by repeat (first | exact Drawn0.refl _ | apply Drawn0.step)⟩
 case round =>
  clear H'
  obtain ⟨x11_1, rfl, HA, HK1, ⟨m1, rfl⟩⟩ := hrel
  cases gk with
  | zero => exact absurd HA.out (by simp [Zba.l0])
  | succ k1 =>
   have H := HA.out
   clear HA
   simp only [Zba.l0] at H
   by_cases c4 : x11_1 < (l0.length : Int)
   rotate_left
   ·rw [if_neg c4] at H
    have c4b0 := decide_eq_false c4
    clear c4
    obtain rfl := Option.some.inj H
    go_wp2
    go_ret
    exact ⟨by first | rfl | (simp; done) | (simp [*]; done), by repeat (first | exact Drawn0.refl _ | apply Drawn0.step)⟩
   rw [if_pos c4] at H
   have c4b0 := decide_eq_true c4
   clear c4
   obtain ⟨c5b0, H⟩ := in_ H
   obtain ⟨c6b0, H⟩ := in_ H
   obtain ⟨t142, A7, H⟩ := bs_ H
   (try dsimp only at H)
   by_cases c8 : t142 = true
   ·subst c8
    replace H := it_ H
    have H' := Aside0.mk H
    clear H
    have p141 : 0 ≤ (x11_1 : Int) := ofd
    have q141 : x11_1 < (l0.length : Int) := ofd
    obtain ⟨ad141, e141, hx141_0⟩ := Kd.at_int HR0.out x11_1 p141 q141
    cases e141
    replace p141 := eq_true p141
    replace q141 := eq_true q141
    go_wp2_with (first | ((with_reducible refine gate_callee (f := 44) rfl ?_); refine goesA (some 18) Try.func44 #[.int .i64 (rd l0 x11_1), .int .i64 a1, .int .i64 a2] ?_; (with_reducible refine (Zcc.calls (rd l0 x11_1) a1 a2 true _ A7.out).mono ?_); rintro e w' ⟨rfl, ⟨nd, rfl⟩⟩; refine ⟨_, rfl, ?_⟩))
    go_roundg k1
    case measure => have := HK1.out; omega
    case rel => exact ⟨(wrap64 (x11_1 + 1)), eqd, H', ⟨by have := HK1.out; omega⟩, by repeat (first | exact Drawn0.refl _ | apply Drawn0.step)⟩
   ·replace c8 := Bool.eq_false_iff.mpr c8
    subst c8
    replace H := if_ H
    obtain rfl := Option.some.inj H
    have p141 : 0 ≤ (x11_1 : Int) := ofd
    have q141 : x11_1 < (l0.length : Int) := ofd
    obtain ⟨ad141, e141, hx141_0⟩ := Kd.at_int HR0.out x11_1 p141 q141
    cases e141
    replace p141 := eq_true p141
    replace q141 := eq_true q141
    go_wp2_with (first | ((with_reducible refine gate_callee (f := 44) rfl ?_); refine goesA (some 18) Try.func44 #[.int .i64 (rd l0 x11_1), .int .i64 a1, .int .i64 a2] ?_; (with_reducible refine (Zcc.calls (rd l0 x11_1) a1 a2 false _ A7.out).mono ?_); rintro e w' ⟨rfl, ⟨nd, rfl⟩⟩; refine ⟨_, rfl, ?_⟩))
    go_ret
    exact ⟨by first | rfl | (simp; done) | (simp [*]; done), by repeat (first | exact Drawn0.refl _ | apply Drawn0.step)⟩
noncomputable def Zba.L0 (x1 : Int) (x2 : Int) (x9 : List Int) (x10 : Int) (x11 : Int) : Option (Bool) := lim fun k => Zba.l0 k x1 x2 x9 x10 x11
theorem Zba.L0_lim (x1 : Int) (x2 : Int) (x9 : List Int) (x10 : Int) (x11 : Int) : Lim (fun k => Zba.l0 k x1 x2 x9 x10 x11) (Zba.L0 x1 x2 x9 x10 x11) := Lim.of fun k => (Zba.mono_l k) x1 x2 x9 x10 x11
noncomputable def Zba.F (l0 : List Int) (a1 : Int) (a2 : Int) : Option (Bool) := lim fun k => Zba.f k l0 a1 a2
theorem Zba.F_lim (l0 : List Int) (a1 : Int) (a2 : Int) : Lim (fun k => Zba.f k l0 a1 a2) (Zba.F l0 a1 a2) := Lim.of fun k => Zba.mono l0 a1 a2 k
theorem Zba.L0_eq (x1 : Int) (x2 : Int) (x9 : List Int) (x10 : Int) (x11 : Int) : Zba.L0 x1 x2 x9 x10 x11 = (if x11 < x10 then (if 0 ≤ x11 then (if x11 < (x9.length : Int) then ((Zcc.f (rd x9 x11) x1 x2).bind fun t142 => (if t142 = true then (Zba.L0 x1 x2 x9 x10 (wrap64 (x11 + 1))) else (some false))) else (none)) else (none)) else (some true)) :=
 Lim.step (f := fun k => Zba.l0 (k + 1) x1 x2 x9 x10 x11) (Zba.L0_lim x1 x2 x9 x10 x11) (fun _ => rfl) (by
  simp only [Zba.l0]
  repeat' (first | (with_reducible first | exact Lim.const _ | exact Zba.L0_lim _ _ _ _ _ | refine Lim.ite ?_ ?_ | refine Lim.bind ?_ (fun _ => ?_))))
theorem Zba.F_eq (l0 : List Int) (a1 : Int) (a2 : Int) : Zba.F l0 a1 a2 = (Zba.L0 a1 a2 l0 (l0.length : Int) 0) :=
 Lim.unique (Zba.F_lim l0 a1 a2) (by
  unfold Zba.f
  repeat' (first | (with_reducible first | exact Lim.const _ | exact Zba.L0_lim _ _ _ _ _ | refine Lim.ite ?_ ?_ | refine Lim.bind ?_ (fun _ => ?_))))
end Go.Proofs.Ytapffhnkfgkboaa.Fn
