/- The machine's side and plain lemmas for FnDotsCostas: texts of this session, merged by its program (part 0). -/
import Derived.Test.YtnhnpplccfojeaaVFnDotsCostas
import Derived.Test.YtnhnpplccfojeaaProg
import Derived.Below
import Derived.Deep.Draws
import Derived.Deep.AppendLies
import Derived.Maps.AppendAt
import Derived.OwnWalk
import Derived.Laws.BytesArg
import Derived.Laws.MakeOwn
import Derived.Laws.OwnMore
import Derived.Deep.OwnRows
import Derived.Tactics
import Derived.Lib.ConvBytes
import Derived.Laws.Slices
import Derived.WalkKit
import Derived.KernelRfl
import Derived.RowKit3
import Derived.Deep.LoopGhost
import Derived.Deep.QuietTactic
import Derived.BigQuiet
import Derived.WideLaws
import Derived.Deep.DeepCutAuto
import Derived.Deep.CutBlock
import Derived.Deep.RegionHeld3
import Derived.Laws.Rows
import Derived.Lib.AppendStr
import Derived.ArgAppend
import Derived.Laws.IdiomCopy
import Derived.OrdersHeld
import Derived.Laws.BitsLemmas
import Derived.RowKit
import Derived.Lib.SliceRun
namespace Go.Proofs.Ytnhnpplccfojeaa.Fn
open Go.RowKit Go.Proofs.YtnhnpplccfojeaaW.PrintWords Go.Proofs.YtnhnpplccfojeaaW.PrintLast
/-- What a function with rounds comes to; none where it comes to nothing. -/
noncomputable def lim {α : Type} (g : Nat → Option α) : Option α := open Classical in if h : ∃ k r, g k = some r then g (Classical.choose h) else none
/-- g gives more with more rounds, and comes to a. -/
structure Lim {α : Type} (g : Nat → Option α) (a : Option α) : Prop where
  mono : ∀ k, LeO (g k) (g (k + 1))
  comes : ∀ r, a = some r ↔ ∃ k, g k = some r
theorem lim_some {α : Type} {g : Nat → Option α} (hg : ∀ k, LeO (g k) (g (k + 1))) (r : α) : lim g = some r ↔ ∃ k, g k = some r := by
  unfold lim
  constructor
  · intro h
    split at h
    · exact ⟨_, h⟩
    · cases h
  · rintro ⟨k, hk⟩
    have hx : ∃ k r, g k = some r := ⟨k, r, hk⟩
    rw [dif_pos hx]
    obtain ⟨r', hr'⟩ := Classical.choose_spec hx
    have h1 := at_rounds hg (Nat.le_max_left k (Classical.choose hx)) hk
    have h2 := at_rounds hg (Nat.le_max_right k (Classical.choose hx)) hr'
    rw [h1] at h2
    rw [hr', h2]
theorem Lim.of {α : Type} {g : Nat → Option α} (hg : ∀ k, LeO (g k) (g (k + 1))) : Lim g (lim g) := ⟨hg, lim_some hg⟩
theorem Lim.unique {α : Type} {g : Nat → Option α} {a b : Option α} (ha : Lim g a) (hb : Lim g b) : a = b := by
  have h : ∀ r, a = some r ↔ b = some r := fun r => (ha.comes r).trans (hb.comes r).symm
  cases a with
  | none =>
    cases b with
    | none => rfl
    | some r => exact absurd ((h r).2 rfl) (by simp)
  | some r => exact ((h r).1 rfl).symm
theorem Lim.const {α : Type} (a : Option α) : Lim (fun _ => a) a := ⟨fun _ => LeO.refl _, fun _ => ⟨fun h => ⟨0, h⟩, fun ⟨_, h⟩ => h⟩⟩
theorem Lim.ite {α : Type} {c : Prop} [Decidable c] {g f : Nat → Option α} {a b : Option α} (hg : Lim g a) (hf : Lim f b) : Lim (fun k => if c then g k else f k) (if c then a else b) := by
  by_cases h : c
  · simp only [if_pos h]
    exact hg
  · simp only [if_neg h]
    exact hf
theorem Lim.bind {α β : Type} {g : Nat → Option α} {f : Nat → α → Option β} {a : Option α} {b : α → Option β} (hg : Lim g a) (hf : ∀ x, Lim (fun k => f k x) (b x)) : Lim (fun k => (g k).bind (f k)) (a.bind b) := by
  refine ⟨fun k => LeO.bind (hg.mono k) (fun x => (hf x).mono k), fun r => ⟨fun h => ?_, fun ⟨k, h⟩ => ?_⟩⟩
  · obtain ⟨x, hx, hb⟩ := Option.bind_eq_some_iff.1 h
    obtain ⟨k, hk⟩ := (hg.comes x).1 hx
    obtain ⟨k', hk'⟩ := ((hf x).comes r).1 hb
    refine ⟨max k k', Option.bind_eq_some_iff.2 ⟨x, at_rounds hg.mono (Nat.le_max_left _ _) hk, ?_⟩⟩
    exact at_rounds (g := fun k => f k x) (hf x).mono (Nat.le_max_right _ _) hk'
  · obtain ⟨x, hx, hb⟩ := Option.bind_eq_some_iff.1 h
    exact Option.bind_eq_some_iff.2 ⟨x, (hg.comes x).2 ⟨k, hx⟩, ((hf x).comes r).2 ⟨k, hb⟩⟩
/-- One round of a loop: what stands behind it comes to the same. -/
theorem Lim.step {α : Type} {g f : Nat → Option α} {a b : Option α} (ha : Lim g a) (hs : ∀ k, g (k + 1) = f k) (hf : Lim f b) : a = b := by
  refine Lim.unique (g := f) ⟨hf.mono, fun r => (ha.comes r).trans ⟨fun ⟨k, h⟩ => ⟨k, ?_⟩, fun ⟨k, h⟩ => ⟨k + 1, (hs k).trans h⟩⟩⟩ hf
  rw [← hs]
  exact ha.mono k r h
theorem Lim.rounds {α : Type} {g : Nat → Option α} {a : Option α} {r : α} (h : Lim g a) (e : a = some r) : ∃ k, g k = some r := (h.comes r).1 e
/-! ### loops over a list -/
theorem wrap_in {n : Int} (h0 : -9223372036854775808 ≤ n) (h1 : n ≤ 9223372036854775807) : wrap64 n = n := by
  unfold wrap64
  omega
theorem rd_mid (pre : List Int) (x : Int) (suf : List Int) : rd (pre ++ x :: suf) (pre.length : Int) = x := by
  unfold rd
  simp
theorem rd_nat (l : List Int) (i : Nat) (h : i < l.length) : rd l (i : Int) = l[i] := by
  unfold rd
  simp [List.getD_eq_getElem?_getD, List.getElem?_eq_getElem h]
theorem range_step {α : Type} {pre : List Int} {x : Int} {suf : List Int} {b n1 n2 e : α} : (if (pre.length : Int) < ((pre ++ x :: suf).length : Int) then (if 0 ≤ (pre.length : Int) then (if (pre.length : Int) < ((pre ++ x :: suf).length : Int) then b else n1) else n2) else e) = b := by
  have h : (pre.length : Int) < ((pre ++ x :: suf).length : Int) := by rw [List.length_append, List.length_cons]; omega
  rw [if_pos h, if_pos (by omega), if_pos h]
theorem range_end {α : Type} {pre : List Int} {b e : α} : (if (pre.length : Int) < ((pre ++ []).length : Int) then b else e) = e := by
  rw [if_neg (by simp)]
theorem wrap_mid {pre : List Int} {x : Int} {suf : List Int} (h : (pre ++ x :: suf).length < 4611686018427387904) : wrap64 ((pre.length : Int) + 1) = ((pre ++ [x]).length : Int) := by
  have h1 : pre.length + 1 ≤ (pre ++ x :: suf).length := by rw [List.length_append, List.length_cons]; omega
  rw [wrap_in (by omega) (by omega)]
  simp
theorem app_mid (pre : List Int) (x : Int) (suf : List Int) : pre ++ x :: suf = (pre ++ [x]) ++ suf := by simp
/-! #### steps of the walk in short: what is pending between two events (values drawn, boxes made) is told by default -/
section
variable {α : Type} {d : Kd α} {e base : Nat} {ok : Nat → Prop} {v : Value} {xs : List α} {w0 w w1 w2 : World}
theorem upR (h : Aside0 (Kd.R d e w base ok v xs)) (hb : Below w1.heap.size w1 w2) (hm : Below w.heap.size w w1 := by (with_reducible repeat (first | exact Below.refl _ _ | apply below_alloc | apply pw_below_drewN | apply below_drew1))) : Aside0 (Kd.R d e w2 base ok v xs) := ⟨Kd.R_below h.out (hm.trans (hb.mono hm.size))⟩
theorem upC {A : Option Addr} {n : Nat} (h : Aside0 (Kd.C d w A n xs)) (hb : Below w1.heap.size w1 w2) (hm : Below w.heap.size w w1 := by (with_reducible repeat (first | exact Below.refl _ _ | apply below_alloc | apply pw_below_drewN | apply below_drew1))) : Aside0 (Kd.C d w2 A n xs) := ⟨Kd.C_below h.out (hm.trans (hb.mono hm.size))⟩
theorem atC {A : Option Addr} {n : Nat} (h : Aside0 (Kd.C d w A n xs)) (hm : Below w.heap.size w w1 := by (with_reducible repeat (first | exact Below.refl _ _ | apply below_alloc | apply pw_below_drewN | apply below_drew1))) : Kd.C d w1 A n xs := Kd.C_below h.out hm
theorem atRC {A : Option Addr} {n c : Nat} (h : Aside0 (Kd.R d e w base ok (.slice A n c) xs)) (hm : Below w.heap.size w w1 := by (with_reducible repeat (first | exact Below.refl _ _ | apply below_alloc | apply pw_below_drewN | apply below_drew1))) : Kd.C d w1 A xs.length xs := Kd.C_below (Kd.R_reads' h.out).2.2 hm
theorem upB (h : Aside0 (Below w0.heap.size w0 w)) (hb : Below w1.heap.size w1 w2) (hm : Below w.heap.size w w1 := by (with_reducible repeat (first | exact Below.refl _ _ | apply below_alloc | apply pw_below_drewN | apply below_drew1))) : Aside0 (Below w0.heap.size w0 w2) := ⟨below_step (below_step h.out hm) hb⟩
theorem atB (h : Aside0 (Below w0.heap.size w0 w)) (hm : Below w.heap.size w w1 := by (with_reducible repeat (first | exact Below.refl _ _ | apply below_alloc | apply pw_below_drewN | apply below_drew1))) : Below w0.heap.size w0 w1 := below_step h.out hm
theorem lowR (h : Kd.R d e w2 w1.heap.size ok v xs) (hB : Aside0 (Below w0.heap.size w0 w)) (hm : Below w.heap.size w w1 := by (with_reducible repeat (first | exact Below.refl _ _ | apply below_alloc | apply pw_below_drewN | apply below_drew1))) : Aside0 (Kd.R d e w2 w0.heap.size ok v xs) := ⟨Kd.R_lower h (below_size (below_step hB.out hm))⟩
theorem lowS (h : Kd.S d e w2 w1.heap.size ok v xs) (hB : Aside0 (Below w0.heap.size w0 w)) (hm : Below w.heap.size w w1 := by (with_reducible repeat (first | exact Below.refl _ _ | apply below_alloc | apply pw_below_drewN | apply below_drew1))) : Aside0 (Kd.S d e w2 w0.heap.size ok v xs) := ⟨Kd.S_lower h (below_size (below_step hB.out hm))⟩
theorem upK {g : Nat} (hK : Aside0 (KeepBut w0 w g none)) (hk : KeepBut w1 w2 g none) (hm : Below w.heap.size w w1 := by (with_reducible repeat (first | exact Below.refl _ _ | apply below_alloc | apply pw_below_drewN | apply below_drew1))) : Aside0 (KeepBut w0 w2 g none) := ⟨(hK.out.trans (KeepBut.of_below hm g none) (.inl rfl)).trans hk (.inl rfl)⟩
theorem upKB {g : Nat} (hK : Aside0 (KeepBut w0 w g none)) (hb : Below w1.heap.size w1 w2) (hm : Below w.heap.size w w1 := by (with_reducible repeat (first | exact Below.refl _ _ | apply below_alloc | apply pw_below_drewN | apply below_drew1))) : Aside0 (KeepBut w0 w2 g none) := ⟨(hK.out.trans (KeepBut.of_below hm g none) (.inl rfl)).trans (KeepBut.of_below hb g none) (.inl rfl)⟩
theorem szK {g : Nat} (hK : Aside0 (KeepBut w0 w g none)) (hm : Below w.heap.size w w1 := by (with_reducible repeat (first | exact Below.refl _ _ | apply below_alloc | apply pw_below_drewN | apply below_drew1))) : w0.heap.size ≤ w1.heap.size := keep_size (hK.out.trans (KeepBut.of_below hm g none) (.inl rfl))
theorem szB (hB : Aside0 (Below w0.heap.size w0 w)) (hm : Below w.heap.size w w1 := by (with_reducible repeat (first | exact Below.refl _ _ | apply below_alloc | apply pw_below_drewN | apply below_drew1))) : w0.heap.size ≤ w1.heap.size := below_size (below_step hB.out hm)
theorem ltR (h : Aside0 (Kd.R d e w base ok v xs)) (hm : Below w.heap.size w w1 := by (with_reducible repeat (first | exact Below.refl _ _ | apply below_alloc | apply pw_below_drewN | apply below_drew1))) : ∀ k, v.ownBlock = some k → k < w1.heap.size := Kd.R_lt (Kd.R_below h.out hm)
theorem eldRR {β : Type} {d' : Kd β} {e' : Nat} {ok' : Nat → Prop} {u : Value} {ys : List β} (h : Aside0 (Kd.R d e w base ok v xs)) (h2 : Kd.R d' e' w2 w1.heap.size ok' u ys) (hb : Below w1.heap.size w1 w2) (hm : Below w.heap.size w w1 := by (with_reducible repeat (first | exact Below.refl _ _ | apply below_alloc | apply pw_below_drewN | apply below_drew1))) : Aside0 (Kd.R d e w2 base (fun k => ok k ∧ some k ≠ u.ownBlock) v xs) := ⟨Kd.R_elder' (Kd.R_below h.out hm) (Kd.R_base h2) hb⟩
theorem eldSR {β : Type} {d' : Kd β} {e' : Nat} {ok' : Nat → Prop} {u : Value} {ys : List β} (h : Aside0 (Kd.S d e w base ok v xs)) (h2 : Kd.R d' e' w2 w1.heap.size ok' u ys) (hb : Below w1.heap.size w1 w2) (hm : Below w.heap.size w w1 := by (with_reducible repeat (first | exact Below.refl _ _ | apply below_alloc | apply pw_below_drewN | apply below_drew1))) : Aside0 (Kd.S d e w2 base (fun k => ok k ∧ some k ≠ u.ownBlock) v xs) := ⟨Kd.S_elder' (Kd.S_below h.out hm) (Kd.R_base h2) hb⟩
theorem atR (h : Aside0 (Kd.R d e w base ok v xs)) (hm : Below w.heap.size w w1 := by (with_reducible repeat (first | exact Below.refl _ _ | apply below_alloc | apply pw_below_drewN | apply below_drew1))) : Kd.R d e w1 base ok v xs := Kd.R_below h.out hm
theorem atS (h : Aside0 (Kd.S d e w base ok v xs)) (hm : Below w.heap.size w w1 := by (with_reducible repeat (first | exact Below.refl _ _ | apply below_alloc | apply pw_below_drewN | apply below_drew1))) : Kd.S d e w1 base ok v xs := Kd.S_below h.out hm
theorem atK {g : Nat} (hK : Aside0 (KeepBut w0 w g none)) (hm : Below w.heap.size w w1 := by (with_reducible repeat (first | exact Below.refl _ _ | apply below_alloc | apply pw_below_drewN | apply below_drew1))) : KeepBut w0 w1 g none := hK.out.trans (KeepBut.of_below hm g none) (.inl rfl)
end
/-- A literal of rows, in a region of its own world. -/
theorem N_lit0 {P : Program} {ops : Array Oper} {rest : List Oper} {o : Oper} {a : Act} {Q : Exit → Act → World → Prop} {α : Type} (d : Kd α) {W : World} (e : Nat) (hg : o.guard = none) {N' : Tmp} (hd : o.dst = some N') {xs : List α} {inner : List Value} {ok okp : Nat → Prop}
    (hr : Go.Sem.run P (execOp a.eval o) W = .ok (.value (.slice (some { block := W.heap.size, off := 0 }) xs.length xs.length)) (W.alloc (.cells inner.toArray e))) (hp : Reps (d.FK W okp) d.sz xs inner) (hk : ∀ k : Nat, okp k → ok k) (h0 : ok W.heap.size) (hl : xs.length ≤ 9223372036854775807)
    (h : ∀ (v1 : Value) (w1 : World), d.N e w1 W.heap.size ok v1 xs → Below W.heap.size W w1 → W.grownBy w1 none → (∃ b, v1.ownBlock = some b ∧ W.heap.size ≤ b) → wpList P ops Q rest (a.put o.dst v1) w1) : wpList P ops Q (o :: rest) a W :=
  Kd.N_lit d (w0 := W) W.heap.size e hg hd hr hp hk h0 (Below.refl _ _) (Nat.le_refl _) hl h
theorem repsI {W : World} {b : Nat} {ok : Nat → Prop} : ∀ xs : List Int, Reps (Kd.M (Kd.int .i64) W b ok) 1 xs (xs.map (Value.int .i64))
  | [] => Reps.none _ _
  | _ :: xs => Reps.one rfl (repsI xs)
theorem eqd {β : Sort _} {a b : β} (h : a = b := by first | rfl | (simp; done) | (simp [*]; done)) : a = b := h
theorem eqr {β : Sort _} {a b : β} (h : a = b := by first | rfl | (simp [errW_none, errW_some] <;> rfl) | (simp [*, errW_none, errW_some] <;> rfl)) : a = b := h
theorem leD {a b : Nat} (h : a ≤ b := by first | omega | exact Nat.le_refl _) : a ≤ b := h
theorem ofd {p : Prop} [Decidable p] (h : decide p = true := by first | (with_reducible assumption) | assumption) : p := of_decide_eq_true h
theorem goesA {P : Program} {ops : Array Oper} {Q : Exit → Act → World → Prop} {rest : List Oper} {oi : Oper} {a : Act} {w : World} {f : FuncId} {fn : Func} {opers : Array Operand} {ts : Array TypeId} (N : Option Tmp) (hf : P.funcs[f]? = some fn) (args : Array Value) (h : Calls P f args w fun e w' => ∃ v, e = .returned v ∧ wpList P ops Q rest (a.put N v) w') (hd : oi.dst = N := by exact rfl) (hg : oi.guard = none := by exact rfl) (hname : (fn.name == "runtime.NumGoroutine") = false := by kernel_rfl) (hb : fn.body.isSome = true := by exact rfl) (hop : oi.op = .call { callee := .value (.func f), args := opers, argTypes := ts } := by exact rfl) (hargs : opers.map a.eval = args := by ((try simp only [List.map_toArray, List.map_cons, List.map_nil]); first | done | rfl | (simp only [List.length_drop, List.length_take]; rfl))) : wpList P ops Q (oi :: rest) a w := goesL_ N hd hg hf hname hb args hop hargs h
/-! #### a number put into a list: 'append(append(append([]int{}, out[:at]...), k), out[at:]...)' -/
def insAt.f (out : List Int) (a k : Int) : Option (List Int) := if 0 ≤ a ∧ a ≤ (out.length : Int) ∧ out.length ≤ 1000000 then some (out.take a.toNat ++ [k] ++ out.drop a.toNat) else none
theorem insAt_parts {out r : List Int} {a k : Int} (h : (if 0 ≤ a ∧ a ≤ (out.length : Int) ∧ out.length ≤ 1000000 then some (out.take a.toNat ++ [k] ++ out.drop a.toNat) else none) = some r) : 0 ≤ a ∧ a ≤ (out.length : Int) ∧ out.length ≤ 1000000 ∧ out.take a.toNat ++ [k] ++ out.drop a.toNat = r := by
  by_cases hc : 0 ≤ a ∧ a ≤ (out.length : Int) ∧ out.length ≤ 1000000
  · rw [if_pos hc] at h
    exact ⟨hc.1, hc.2.1, hc.2.2, Option.some.inj h⟩
  · rw [if_neg hc] at h
    cases h
theorem C_box {w : World} {b e : Nat} {k : Int} (h : w.heap[b]? = some (.cells #[.int .i64 k] e (0, 0))) : Kd.C (Kd.int .i64) w (some ⟨b, 0, none⟩) 1 [k] := by
  refine Kd.C_of_reads (d := (0 : Int)) (h1 := fun _ => rfl) ⟨rfl, by omega, fun _ => ⟨_, rfl, fun j hj => ?_⟩⟩
  have : j = 0 := by omega
  subst this
  exact (blk_cell h 0).trans rfl
theorem heap_lt_alloc (w : World) (o : Obj) : w.heap.size < (w.alloc o).heap.size := by
  have h : (w.alloc o).heap.size = w.heap.size + 1 := Array.size_push _
  omega
theorem lt_of_cells {w : World} {k : Nat} {o : Obj} (h : w.heap[k]? = some o) : k < w.heap.size := (Array.getElem?_eq_some_iff.1 h).1
theorem new_ne {α : Type} {d : Kd α} {e : Nat} {w : World} {base : Nat} {ok : Nat → Prop} {v : Value} {xs : List α} (h : d.R e w base ok v xs) : some w.heap.size ≠ v.ownBlock := fun he => by
  obtain ⟨inner, ho⟩ := Kd.R_own h
  have := own_lt ho w.heap.size he.symm
  omega
theorem elder_ne {v : Value} {k n : Nat} (h : ∃ b, v.ownBlock = some b ∧ n ≤ b) (hk : k < n) : some k ≠ v.ownBlock := fun he => by
  obtain ⟨b, hb, hn⟩ := h
  rw [hb] at he
  injection he with he
  omega
/-! #### a search that calls a function with each row that it has made -/
/-- Blocks of elements of type e, those of Y left out, stay as they are. -/
def KeepI (e : Nat) (Y : Nat → Prop) (w w' : World) : Prop := ∀ k cells, ¬ Y k → w.heap[k]? = some (.cells cells e (0, 0)) → w'.heap[k]? = some (.cells cells e (0, 0))
theorem KeepI.refl (e : Nat) (Y : Nat → Prop) (w : World) : KeepI e Y w w := fun _ _ _ h => h
theorem KeepI.trans {e : Nat} {Y : Nat → Prop} {w w1 w2 : World} (h : KeepI e Y w w1) (h2 : KeepI e Y w1 w2) : KeepI e Y w w2 := fun k cells hk hc => h2 k cells hk (h k cells hk hc)
theorem KeepI.of_below {e : Nat} {Y : Nat → Prop} {w w1 : World} (h : Below w.heap.size w w1) : KeepI e Y w w1 := fun k _ _ hc => (h.block k (lt_of_cells hc)).trans hc
theorem KeepI.R {α : Type} {d : Kd α} {e : Nat} {Y : Nat → Prop} {w w1 : World} {base : Nat} {v : Value} {xs : List α} (hk : KeepI e Y w w1) (hE : d.E = []) (h : Kd.R d e w base (fun k => ¬ Y k) v xs) : Kd.R d e w1 base (fun k => ¬ Y k) v xs :=
  Kd.R_mono (Kd.R_move (Kd.R_bound h) (fun k hk' => by
    obtain ⟨h1, _, _, q, hq, cells, hc⟩ := hk'
    rw [hE] at hq
    have : q = e := by simpa using hq
    subst this
    rw [hk k cells h1 hc, hc])) (fun _ h => h.1)
/-- What such a search asks of the function that it calls: its state stands whatever is made beside it; a call is handed a row that is younger than the state and leaves all rows as they are. -/
structure EachR (P : Program) {σ : Type} (e base : Nat) (Y : Nat → Prop) (fid : FuncId) (caps : Array Value) (each : σ → List Int → Option (σ × Bool)) (I : σ → World → Prop) : Prop where
  fn : ∃ fn, P.funcs[fid]? = some fn ∧ (fn.name == "runtime.NumGoroutine") = false ∧ fn.body.isSome = true
  stable : ∀ s w w', I s w → Below w.heap.size w w' → I s w'
  fresh : ∀ s w k, I s w → w.heap.size ≤ k → ¬ Y k
  call : ∀ s row A c w0 w s' b, I s w0 → base ≤ w0.heap.size → Below w0.heap.size w0 w → Kd.R (Kd.int .i64) e w w0.heap.size (fun k => ¬ Y k) (.slice A row.length c) row → row.length ≤ 1000 → each s row = some (s', b) → Calls P fid (#[.slice A row.length c] ++ caps) w fun o w' => o = .returned (.bool b) ∧ I s' w' ∧ Below base w w' ∧ KeepI e Y w w'
section
variable {P : Program} {ops : Array Oper} {Q : Exit → Act → World → Prop}
/-- A call of a function value that lies in a place. -/
theorem goesF_ {rest : List Oper} {oi : Oper} {a : Act} {w : World} (N : Option Tmp) (hd : oi.dst = N) (hg : oi.guard = none) {f : FuncId} {fn : Func} {p : Tmp} {xs : Array Operand} {ts : Array TypeId} {caps : Array Value} (hf : P.funcs[f]? = some fn) (hname : (fn.name == "runtime.NumGoroutine") = false) (hb : fn.body.isSome = true) (args : Array Value)
    (hop : oi.op = .call { callee := .value (.tmp p), args := xs, argTypes := ts }) (hv : a.eval (.tmp p) = .func (.func f) #[] caps) (hargs : xs.map a.eval = args)
    (h : Calls P f (args ++ caps) w fun e w' => ∃ v, e = .returned v ∧ wpList P ops Q rest (a.put N v) w') : wpList P ops Q (oi :: rest) a w := by
  refine wpList_plain hg fun K hK => ?_
  have he := enters_ hf hname hb (args ++ caps) w
  have hrun : (execOp a.eval oi).run P w = .ok (.enter f (args ++ caps)) w := by
    unfold execOp
    simp [hop, resolve, Deferred.ofValue, invoke, hv, hargs, he]
  unfold Oper.wp
  rw [hrun, Oper.upon_enter]
  refine h.mono fun e w'' hh => ?_
  obtain ⟨v, rfl, hk⟩ := hh
  subst hd
  exact hK _ _ hk
theorem gate_fval {o : Oper} {rest : List Oper} {a : Act} {W : World} {p : Tmp} {xs : Array Operand} {ts : Array TypeId} (_ho : o.op = .call { callee := .value (.tmp p), args := xs, argTypes := ts }) (h : wpList P ops Q (o :: rest) a W) : wpList P ops Q (o :: rest) a W := h
end
/-! #### a part of a function's body, for the walks that are split -/
def codeAt : List Nat → Code → Code
  | [], c => c
  | 0 :: p, .seq a _ => codeAt p a
  | 1 :: p, .seq _ b => codeAt p b
  | 0 :: p, .cond _ a _ => codeAt p a
  | 1 :: p, .cond _ _ b => codeAt p b
  | 0 :: p, .block _ b => codeAt p b
  | 0 :: p, .loop b => codeAt p b
  | _ :: _, c => c
def bodyAt (f : Func) : Code := f.body.getD .skip
end Go.Proofs.Ytnhnpplccfojeaa.Fn
namespace Go.Proofs.Ytnhnpplccfojeaa.Fn
open Go.RowKit Go.Proofs.YtnhnpplccfojeaaW.PrintWords Go.Proofs.YtnhnpplccfojeaaW.PrintLast Go.Proofs.YtnhnpplccfojeaaW.PrintMore
attribute [local go_sem] max2_int min2_int max_two min_two max_three min_three max_four min_four   -- for this text's walks alone
set_option linter.unusedVariables false
set_option linter.unusedSimpArgs false
def errW : Option Int → Value
  | none => .nilIface
  | some c => .iface 0 (.int .i64 c)
theorem errW_none : errW none = .nilIface := rfl
theorem errW_some (c : Int) : errW (some c) = .iface 0 (.int .i64 c) := rfl
theorem info3 : (Try.prog.info? 3).map (fun i => (i.zero, i.size, i.bytes)) = some (some (.int .i64 0), 1, 8) := by kernel_rfl
theorem info24 : (Try.prog.info? 24).map (fun i => (i.zero, i.size, i.bytes)) = some (some (.slice none 0 0), 1, 24) := by kernel_rfl
-- the values' own types
def rd_L2 (xs : List (List Int)) (i : Int) : (List Int) := xs.getD i.toNat ([] : List Int)
theorem at_L2 {w : World} {A : Option Addr} {n : Nat} {xs : List (List Int)} (h : Kd.C (Kd.slice 3 (Kd.int .i64)) w A n xs) (i : Int) (h0 : 0 ≤ i) (h1 : i < n) : ∃ ad A0 c0, A = some ad ∧ w.cell? (ad.add i.toNat) = some (.slice A0 (rd_L2 xs i).length c0) ∧ (rd_L2 xs i).length ≤ c0 ∧ (Kd.int .i64).C w A0 (rd_L2 xs i).length (rd_L2 xs i) := by
  obtain ⟨ad, c, e, _, hK, hc0⟩ := Kd.C_get h ([] : List Int) i h0 h1
  have hc : ∀ j u, c[j]? = some u → w.cell? (ad.add (i.toNat * 1 + j)) = some u := hc0
  obtain ⟨A0, c0, rfl, l0, g0⟩ := hK
  exact ⟨ad, A0, c0, e, by have hq := hc 0 _ rfl; rwa [Nat.mul_one, Nat.add_zero] at hq, l0, g0⟩
/-- A state of type 68 at block g of W; what its slices lead to came in by w0. -/
def IsS68 (w0 W : World) (g : Nat) (f0 : List Int) (f1 : Int) (f2 : Int) : Prop := ∃ A0 c0, W.heap[g]? = some (.cells #[.slice A0 f0.length c0, .int .i64 f1, .int .u64 f2] 68 (0, 0)) ∧ w0.heap.size ≤ g ∧ Kd.C (Kd.int .u8) w0 A0 f0.length f0
theorem IsS68.grown {w0 W : World} {g : Nat} {f0 : List Int} {f1 : Int} {f2 : Int} {W1 : World} {row : Option Nat} (h : IsS68 w0 W g f0 f1 f2) (hw : W.grownBy W1 row) (hne : some g ≠ row) : IsS68 w0 W1 g f0 f1 f2 := by
  obtain ⟨A0, c0, hb, hg, hr0⟩ := h
  exact ⟨A0, c0, blk_grown hb hw hne, hg, hr0⟩
theorem IsS68.fresh {w0 W : World} {g : Nat} {f0 : List Int} {f1 : Int} {f2 : Int} (h : IsS68 w0 W g f0 f1 f2) : ∀ k, W.heap.size ≤ k → k ≠ g := by
  obtain ⟨A0, c0, hb, hg, hr0⟩ := h
  exact Kd.freshB hb
theorem IsS68.below {w0 W : World} {g : Nat} {f0 : List Int} {f1 : Int} {f2 : Int} {W1 : World} (h : IsS68 w0 W g f0 f1 f2) (hw : Below W.heap.size W W1) : IsS68 w0 W1 g f0 f1 f2 := h.grown (grown_of_below hw none) (by simp)
theorem IsS68.up {w0 W : World} {g : Nat} {f0 : List Int} {f1 : Int} {f2 : Int} {W1 W2 : World} (h : Aside0 (IsS68 w0 W g f0 f1 f2)) (hb : Below W1.heap.size W1 W2) (hm : Below W.heap.size W W1 := by (with_reducible repeat (first | exact Below.refl _ _ | apply below_alloc | apply pw_below_drewN | apply below_drew1))) : Aside0 (IsS68 w0 W2 g f0 f1 f2) := ⟨IsS68.below h.out (hm.trans (hb.mono hm.size))⟩
theorem IsS68.at {w0 W : World} {g : Nat} {f0 : List Int} {f1 : Int} {f2 : Int} {W1 : World} (h : Aside0 (IsS68 w0 W g f0 f1 f2)) (hm : Below W.heap.size W W1 := by (with_reducible repeat (first | exact Below.refl _ _ | apply below_alloc | apply pw_below_drewN | apply below_drew1))) : IsS68 w0 W1 g f0 f1 f2 := IsS68.below h.out hm
theorem IsS68.alloc {w0 W : World} {g : Nat} {f0 : List Int} {f1 : Int} {f2 : Int} (h : IsS68 w0 W g f0 f1 f2) (o : Obj) : IsS68 w0 (W.alloc o) g f0 f1 f2 := h.below (below_alloc (Below.refl _ _) o)
theorem IsS68.drewN {w0 W : World} {g : Nat} {f0 : List Int} {f1 : Int} {f2 : Int} (h : IsS68 w0 W g f0 f1 f2) (m : Nat) : IsS68 w0 (W.drewN m) g f0 f1 f2 := h
theorem IsS68.drew {w0 W : World} {g : Nat} {f0 : List Int} {f1 : Int} {f2 : Int} (h : IsS68 w0 W g f0 f1 f2) : IsS68 w0 W.drew g f0 f1 f2 := h
theorem IsS68.at_ {w0 W : World} {g : Nat} {f0 : List Int} {f1 : Int} {f2 : Int} {w' : World} {m : Nat} (hq : W.drewN m = w') (h : IsS68 w0 W g f0 f1 f2) : IsS68 w0 w' g f0 f1 f2 := by subst hq; exact IsS68.drewN h m
theorem IsS68.apart {w0 W : World} {g : Nat} {f0 : List Int} {f1 : Int} {f2 : Int} {α : Type} {d : Kd α} {e : Nat} {base : Nat} {ok : Nat → Prop} {v : Value} {xs : List α} (h : IsS68 w0 W g f0 f1 f2) (ho : d.R e W base ok v xs) (ht : ∀ q, q ∈ e :: d.E → q ≠ 68) : d.R e W base (fun k => ok k ∧ k ≠ g) v xs := by
  obtain ⟨A0, c0, hb, hg, hr0⟩ := h
  exact Kd.R_types ho hb ht
theorem IsS68.keepR {w0 W : World} {g : Nat} {f0 : List Int} {f1 : Int} {f2 : Int} {α : Type} {d : Kd α} {e : Nat} {base : Nat} {ok : Nat → Prop} {v : Value} {xs : List α} {Wr W1 W2 : World} (hI : Aside0 (IsS68 w0 W g f0 f1 f2)) (ho : Aside0 (Kd.R d e Wr base ok v xs)) (hk : KeepBut W1 W2 g none) (hm : Below W.heap.size W W1 := by (with_reducible repeat (first | exact Below.refl _ _ | apply below_alloc | apply pw_below_drewN | apply below_drew1))) (hn : Below Wr.heap.size Wr W1 := by (with_reducible repeat (first | exact Below.refl _ _ | apply below_alloc | apply pw_below_drewN | apply below_drew1))) (hd : ∀ q, q ∈ e :: d.E → q ≠ 68 := by decide) : Aside0 (Kd.R d e W2 base ok v xs) :=
  ⟨Kd.R_mono (Kd.R_keep (IsS68.apart (IsS68.below hI.out hm) (Kd.R_below ho.out hn) hd) hk (fun _ h => h.2)) (fun _ h => h.1)⟩
theorem IsS68.own_ne {w0 W : World} {g : Nat} {f0 : List Int} {f1 : Int} {f2 : Int} {α : Type} {d : Kd α} {e : Nat} {base : Nat} {ok : Nat → Prop} {v : Value} {xs : List α} (h : IsS68 w0 W g f0 f1 f2) (ho : d.R e W base ok v xs) (ht : e ≠ 68) : some g ≠ v.ownBlock := by
  obtain ⟨A0, c0, hb, hg, hr0⟩ := h
  exact Kd.R_ne ho hb ht
theorem IsS68.ge {w0 W : World} {g : Nat} {f0 : List Int} {f1 : Int} {f2 : Int} (h : IsS68 w0 W g f0 f1 f2) : w0.heap.size ≤ g := by
  obtain ⟨A0, c0, hb, hg, hr0⟩ := h
  exact hg
theorem cellS68_0 {W : World} {g : Nat} {A0 : Option Addr} {c0 : Nat} {f0 : List Int} {f1 : Int} {f2 : Int} (h : W.heap[g]? = some (.cells #[.slice A0 f0.length c0, .int .i64 f1, .int .u64 f2] 68 (0, 0))) : W.cell? ⟨g, 0, none⟩ = some (.slice A0 f0.length c0) := (blk_cell h 0).trans rfl
theorem cellS68_1 {W : World} {g : Nat} {A0 : Option Addr} {c0 : Nat} {f0 : List Int} {f1 : Int} {f2 : Int} (h : W.heap[g]? = some (.cells #[.slice A0 f0.length c0, .int .i64 f1, .int .u64 f2] 68 (0, 0))) : W.cell? ⟨g, 1, none⟩ = some (.int .i64 f1) := (blk_cell h 1).trans rfl
theorem IsS68.set_1 {w0 W : World} {g : Nat} {f0 : List Int} {f1 : Int} {f2 : Int} (h : IsS68 w0 W g f0 f1 f2) (x : Int) : IsS68 w0 (W.setCell ⟨g, 1, none⟩ (.int .i64 x)) g f0 x f2 := by
  obtain ⟨A0, c0, hb, hg, hr0⟩ := h
  exact ⟨A0, c0, by simpa using blk_set hb 1 (.int .i64 x), hg, hr0⟩
theorem cellS68_2 {W : World} {g : Nat} {A0 : Option Addr} {c0 : Nat} {f0 : List Int} {f1 : Int} {f2 : Int} (h : W.heap[g]? = some (.cells #[.slice A0 f0.length c0, .int .i64 f1, .int .u64 f2] 68 (0, 0))) : W.cell? ⟨g, 2, none⟩ = some (.int .u64 f2) := (blk_cell h 2).trans rfl
theorem IsS68.set_2 {w0 W : World} {g : Nat} {f0 : List Int} {f1 : Int} {f2 : Int} (h : IsS68 w0 W g f0 f1 f2) (x : Int) : IsS68 w0 (W.setCell ⟨g, 2, none⟩ (.int .u64 x)) g f0 f1 x := by
  obtain ⟨A0, c0, hb, hg, hr0⟩ := h
  exact ⟨A0, c0, by simpa using blk_set hb 2 (.int .u64 x), hg, hr0⟩
/-! ### spec_l1Cur_next: function 139 -/
def spec_l1Cur_next.f (s0_0 : List Int) (s0_1 : Int) (s0_2 : Int) : Option (Int × Int × Int) := if s0_1 < (s0_0.length : Int) then (if 0 ≤ s0_1 then (if (wrap64 (s0_1 + 1)) ≤ (s0_0.length : Int) then (some (wrap64 (rd s0_0 s0_1), wrap64 (s0_1 + 1), IntKind.u64.wrap ((IntKind.u64.wrap ((IntKind.u64.wrap (s0_2 * 6364136223846793005)) + (IntKind.u64.wrap (wrap64 (rd s0_0 s0_1))))) + 1442695040888963407))) else (some (wrap64 (Go.bits .and .u64 ((IntKind.u64.wrap ((IntKind.u64.wrap ((IntKind.u64.wrap (s0_2 * 6364136223846793005)) + (IntKind.u64.wrap (wrap64 (rd s0_0 s0_1))))) + 1442695040888963407)) / 1099511627776) 255), wrap64 (s0_1 + 1), IntKind.u64.wrap ((IntKind.u64.wrap ((IntKind.u64.wrap (s0_2 * 6364136223846793005)) + (IntKind.u64.wrap (wrap64 (rd s0_0 s0_1))))) + 1442695040888963407)))) else (none)) else (if (wrap64 (s0_1 + 1)) ≤ (s0_0.length : Int) then (some (0, wrap64 (s0_1 + 1), IntKind.u64.wrap ((IntKind.u64.wrap (IntKind.u64.wrap (s0_2 * 6364136223846793005))) + 1442695040888963407))) else (some (wrap64 (Go.bits .and .u64 ((IntKind.u64.wrap ((IntKind.u64.wrap (IntKind.u64.wrap (s0_2 * 6364136223846793005))) + 1442695040888963407)) / 1099511627776) 255), wrap64 (s0_1 + 1), IntKind.u64.wrap ((IntKind.u64.wrap (IntKind.u64.wrap (s0_2 * 6364136223846793005))) + 1442695040888963407))))
set_option maxHeartbeats 8000000 in
set_option maxRecDepth 100000 in
theorem spec_l1Cur_next.calls (g : Nat) (s0_0 : List Int) (s0_1 : Int) (s0_2 : Int) (r1 : Int) (r2 : Int) (r3 : Int) (w0 w : World) (hI : IsS68 w0 w g s0_0 s0_1 s0_2) (hB : Below w0.heap.size w0 w) (h : spec_l1Cur_next.f s0_0 s0_1 s0_2 = some (r1, r2, r3)) :
    Calls Try.prog 139 #[.pointer (some ⟨g, 0, none⟩)] w fun e w' => e = .returned (.int .i64 r1) ∧ IsS68 w0 w' g s0_0 r2 r3 ∧ Below w0.heap.size w0 w' ∧ KeepBut w w' g none := by
  have HI0 := Aside0.mk hI
  have HK := Aside0.mk (KeepBut.refl w g none)
  have HL := Aside0.mk hB.size
  clear hI
  have HW0 := Aside0.mk hB.size
  have HB := Aside0.mk hB
  clear hB
  have H : (if s0_1 < (s0_0.length : Int) then (if 0 ≤ s0_1 then (if (wrap64 (s0_1 + 1)) ≤ (s0_0.length : Int) then (some (wrap64 (rd s0_0 s0_1), wrap64 (s0_1 + 1), IntKind.u64.wrap ((IntKind.u64.wrap ((IntKind.u64.wrap (s0_2 * 6364136223846793005)) + (IntKind.u64.wrap (wrap64 (rd s0_0 s0_1))))) + 1442695040888963407))) else (some (wrap64 (Go.bits .and .u64 ((IntKind.u64.wrap ((IntKind.u64.wrap ((IntKind.u64.wrap (s0_2 * 6364136223846793005)) + (IntKind.u64.wrap (wrap64 (rd s0_0 s0_1))))) + 1442695040888963407)) / 1099511627776) 255), wrap64 (s0_1 + 1), IntKind.u64.wrap ((IntKind.u64.wrap ((IntKind.u64.wrap (s0_2 * 6364136223846793005)) + (IntKind.u64.wrap (wrap64 (rd s0_0 s0_1))))) + 1442695040888963407)))) else (none)) else (if (wrap64 (s0_1 + 1)) ≤ (s0_0.length : Int) then (some (0, wrap64 (s0_1 + 1), IntKind.u64.wrap ((IntKind.u64.wrap (IntKind.u64.wrap (s0_2 * 6364136223846793005))) + 1442695040888963407))) else (some (wrap64 (Go.bits .and .u64 ((IntKind.u64.wrap ((IntKind.u64.wrap (IntKind.u64.wrap (s0_2 * 6364136223846793005))) + 1442695040888963407)) / 1099511627776) 255), wrap64 (s0_1 + 1), IntKind.u64.wrap ((IntKind.u64.wrap (IntKind.u64.wrap (s0_2 * 6364136223846793005))) + 1442695040888963407))))) = some (r1, r2, r3) := h
  clear h
  by_cases c2 : s0_1 < (s0_0.length : Int)
  · rw [if_pos c2] at H
    have c2b0 : decide (s0_1 < (s0_0.length : Int)) = true := decide_eq_true c2
    clear c2
    by_cases c3 : 0 ≤ s0_1
    · rw [if_pos c3] at H
      have c3b0 : decide (0 ≤ s0_1) = true := decide_eq_true c3
      clear c3
      by_cases c4 : (wrap64 (s0_1 + 1)) ≤ (s0_0.length : Int)
      · rw [if_pos c4] at H
        have c4b0 : decide ((wrap64 (s0_1 + 1)) ≤ (s0_0.length : Int)) = true := decide_eq_true c4
        clear c4
        simp only [Option.some.injEq, Prod.mk.injEq] at H
        obtain ⟨rfl, rfl, rfl⟩ := H
        obtain ⟨ASz5_0, cSz5_0, HGz5, hgz5, HSz5_0⟩ := HI0.out
        have hcz5_0 := cellS68_0 HGz5
        have hcz5_1 := cellS68_1 HGz5
        have hcz5_2 := cellS68_2 HGz5
        have hfz5_1 := blk_frozen HGz5 1
        have hfz5_2 := blk_frozen HGz5 2
        clear HGz5 hgz5
        have p105 : 0 ≤ (s0_1 : Int) := of_decide_eq_true (by first | (with_reducible assumption) | assumption)
        have q105 : s0_1 < (s0_0.length : Int) := of_decide_eq_true (by first | (with_reducible assumption) | assumption)
        obtain ⟨ad105, e105, hx105_0⟩ := Kd.at_int HSz5_0 s0_1 p105 q105
        cases e105
        replace hx105_0 := pw_cell_below HB.out hx105_0
        replace p105 := eq_true p105
        replace q105 := eq_true q105
        go_enter Try.func139, Try.ntmps139
        go_wp2
        repeat (go_quiet (fail); try go_wp2)
        go_ret
        exact ⟨by first | rfl | (simp [errW_none, errW_some] <;> rfl) | (simp [*, errW_none, errW_some] <;> rfl), by repeat (first | (with_reducible first | exact HI0.out | apply IsS68.alloc | apply IsS68.drewN | apply IsS68.drew | apply IsS68.set_1 | apply IsS68.set_2) | exact HI0.out), by repeat (first | (with_reducible first | exact HB.out | apply below_alloc | apply pw_below_drewN | apply below_drew1 | refine below_set ?_ (IsS68.ge HI0.out)) | exact HB.out), by repeat (first | (with_reducible first | exact HK.out | apply KeepBut.set_ | apply keep_drewN | apply keep_drew | apply keep_alloc) | exact HK.out)⟩
      · rw [if_neg c4] at H
        have c4b0 : decide ((wrap64 (s0_1 + 1)) ≤ (s0_0.length : Int)) = false := decide_eq_false c4
        clear c4
        simp only [Option.some.injEq, Prod.mk.injEq] at H
        obtain ⟨rfl, rfl, rfl⟩ := H
        obtain ⟨ASz6_0, cSz6_0, HGz6, hgz6, HSz6_0⟩ := HI0.out
        have hcz6_0 := cellS68_0 HGz6
        have hcz6_1 := cellS68_1 HGz6
        have hcz6_2 := cellS68_2 HGz6
        have hfz6_1 := blk_frozen HGz6 1
        have hfz6_2 := blk_frozen HGz6 2
        clear HGz6 hgz6
        have p105 : 0 ≤ (s0_1 : Int) := of_decide_eq_true (by first | (with_reducible assumption) | assumption)
        have q105 : s0_1 < (s0_0.length : Int) := of_decide_eq_true (by first | (with_reducible assumption) | assumption)
        obtain ⟨ad105, e105, hx105_0⟩ := Kd.at_int HSz6_0 s0_1 p105 q105
        cases e105
        replace hx105_0 := pw_cell_below HB.out hx105_0
        replace p105 := eq_true p105
        replace q105 := eq_true q105
        go_enter Try.func139, Try.ntmps139
        go_wp2
        repeat (go_quiet (fail); try go_wp2)
        go_ret
        exact ⟨by first | rfl | (simp [errW_none, errW_some] <;> rfl) | (simp [*, errW_none, errW_some] <;> rfl), by repeat (first | (with_reducible first | exact HI0.out | apply IsS68.alloc | apply IsS68.drewN | apply IsS68.drew | apply IsS68.set_1 | apply IsS68.set_2) | exact HI0.out), by repeat (first | (with_reducible first | exact HB.out | apply below_alloc | apply pw_below_drewN | apply below_drew1 | refine below_set ?_ (IsS68.ge HI0.out)) | exact HB.out), by repeat (first | (with_reducible first | exact HK.out | apply KeepBut.set_ | apply keep_drewN | apply keep_drew | apply keep_alloc) | exact HK.out)⟩
    · rw [if_neg c3] at H
      exact absurd H (by simp)
  · rw [if_neg c2] at H
    have c2b0 : decide (s0_1 < (s0_0.length : Int)) = false := decide_eq_false c2
    clear c2
    by_cases c7 : (wrap64 (s0_1 + 1)) ≤ (s0_0.length : Int)
    · rw [if_pos c7] at H
      have c7b0 : decide ((wrap64 (s0_1 + 1)) ≤ (s0_0.length : Int)) = true := decide_eq_true c7
      clear c7
      simp only [Option.some.injEq, Prod.mk.injEq] at H
      obtain ⟨rfl, rfl, rfl⟩ := H
      obtain ⟨ASz8_0, cSz8_0, HGz8, hgz8, HSz8_0⟩ := HI0.out
      have hcz8_0 := cellS68_0 HGz8
      have hcz8_1 := cellS68_1 HGz8
      have hcz8_2 := cellS68_2 HGz8
      have hfz8_1 := blk_frozen HGz8 1
      have hfz8_2 := blk_frozen HGz8 2
      clear HGz8 hgz8
      go_enter Try.func139, Try.ntmps139
      go_wp2
      repeat (go_quiet (fail); try go_wp2)
      go_ret
      exact ⟨by first | rfl | (simp [errW_none, errW_some] <;> rfl) | (simp [*, errW_none, errW_some] <;> rfl), by repeat (first | (with_reducible first | exact HI0.out | apply IsS68.alloc | apply IsS68.drewN | apply IsS68.drew | apply IsS68.set_1 | apply IsS68.set_2) | exact HI0.out), by repeat (first | (with_reducible first | exact HB.out | apply below_alloc | apply pw_below_drewN | apply below_drew1 | refine below_set ?_ (IsS68.ge HI0.out)) | exact HB.out), by repeat (first | (with_reducible first | exact HK.out | apply KeepBut.set_ | apply keep_drewN | apply keep_drew | apply keep_alloc) | exact HK.out)⟩
    · rw [if_neg c7] at H
      have c7b0 : decide ((wrap64 (s0_1 + 1)) ≤ (s0_0.length : Int)) = false := decide_eq_false c7
      clear c7
      simp only [Option.some.injEq, Prod.mk.injEq] at H
      obtain ⟨rfl, rfl, rfl⟩ := H
      obtain ⟨ASz9_0, cSz9_0, HGz9, hgz9, HSz9_0⟩ := HI0.out
      have hcz9_0 := cellS68_0 HGz9
      have hcz9_1 := cellS68_1 HGz9
      have hcz9_2 := cellS68_2 HGz9
      have hfz9_1 := blk_frozen HGz9 1
      have hfz9_2 := blk_frozen HGz9 2
      clear HGz9 hgz9
      go_enter Try.func139, Try.ntmps139
      go_wp2
      repeat (go_quiet (fail); try go_wp2)
      go_ret
      exact ⟨by first | rfl | (simp [errW_none, errW_some] <;> rfl) | (simp [*, errW_none, errW_some] <;> rfl), by repeat (first | (with_reducible first | exact HI0.out | apply IsS68.alloc | apply IsS68.drewN | apply IsS68.drew | apply IsS68.set_1 | apply IsS68.set_2) | exact HI0.out), by repeat (first | (with_reducible first | exact HB.out | apply below_alloc | apply pw_below_drewN | apply below_drew1 | refine below_set ?_ (IsS68.ge HI0.out)) | exact HB.out), by repeat (first | (with_reducible first | exact HK.out | apply KeepBut.set_ | apply keep_drewN | apply keep_drew | apply keep_alloc) | exact HK.out)⟩
/-! ### spec_l1Cur_pick: function 97 -/
def spec_l1Cur_pick.f (s0_0 : List Int) (s0_1 : Int) (s0_2 : Int) (a1 : Int) : Option (Int × Int × Int) := if a1 ≤ 1 then (some (0, s0_1, s0_2)) else ((spec_l1Cur_next.f s0_0 s0_1 s0_2).bind fun bt106 => (if a1 > 200 then ((spec_l1Cur_next.f s0_0 bt106.2.1 bt106.2.2).bind fun bt109 => (if a1 = 0 then (none) else (some (Int.tmod (wrap64 ((wrap64 (bt106.1 * 256)) + bt109.1)) a1, bt109.2.1, bt109.2.2)))) else (if a1 = 0 then (none) else (some (Int.tmod bt106.1 a1, bt106.2.1, bt106.2.2)))))
set_option maxHeartbeats 8000000 in
set_option maxRecDepth 100000 in
theorem spec_l1Cur_pick.calls (g : Nat) (s0_0 : List Int) (s0_1 : Int) (s0_2 : Int) (a1 : Int) (r1 : Int) (r2 : Int) (r3 : Int) (w0 w : World) (hI : IsS68 w0 w g s0_0 s0_1 s0_2) (hB : Below w0.heap.size w0 w) (h : spec_l1Cur_pick.f s0_0 s0_1 s0_2 a1 = some (r1, r2, r3)) :
  Calls Try.prog 97 #[.pointer (some ⟨g, 0, none⟩), .int .i64 a1] w fun e w' => e = .returned (.int .i64 r1) ∧ IsS68 w0 w' g s0_0 r2 r3 ∧ Below w0.heap.size w0 w' ∧ KeepBut w w' g none := by
 have HI0 := Aside0.mk hI
 have HK := Aside0.mk (KeepBut.refl w g none)
 have HL := Aside0.mk hB.size
 clear hI
 have HW0 := Aside0.mk hB.size
 have HB := Aside0.mk hB
 clear hB
 have H := h
 unfold spec_l1Cur_pick.f at H
 clear h
 by_cases c3 : a1 ≤ 1
 ·rw [if_pos c3] at H
  have c3b0 : decide (a1 ≤ 1) = true := decide_eq_true c3
  clear c3
  simp only [Option.some.injEq, Prod.mk.injEq] at H
  obtain ⟨rfl, rfl, rfl⟩ := H
  go_enter Try.func97, Try.ntmps97
  go_wp2
  go_ret
  exact ⟨eqr, IsS68.at HI0, atB HB, atK HK⟩
 ·rw [if_neg c3] at H
  have c3b0 : decide (a1 ≤ 1) = false := decide_eq_false c3
  clear c3
  replace H := Option.bind_eq_some_iff.mp H
  obtain ⟨⟨t106, t107, t108⟩, A40, H⟩ := H
  replace H : (if a1 > 200 then ((spec_l1Cur_next.f s0_0 t107 t108).bind fun bt109 => (if a1 = 0 then (none) else (some (Int.tmod (wrap64 ((wrap64 (t106 * 256)) + bt109.1)) a1, bt109.2.1, bt109.2.2)))) else (if a1 = 0 then (none) else (some (Int.tmod t106 a1, t107, t108)))) = some (r1, r2, r3) := H
  have A4 := Aside0.mk A40
  clear A40
  by_cases c5 : a1 > 200
  ·rw [if_pos c5] at H
   have c5b0 : decide (200 < a1) = true := decide_eq_true c5
   clear c5
   replace H := Option.bind_eq_some_iff.mp H
   obtain ⟨⟨t109, t110, t111⟩, A60, H⟩ := H
   replace H : (if a1 = 0 then (none) else (some (Int.tmod (wrap64 ((wrap64 (t106 * 256)) + t109)) a1, t110, t111))) = some (r1, r2, r3) := H
   have A6 := Aside0.mk A60
   clear A60
   by_cases c7 : a1 = 0
   ·rw [if_pos c7] at H
    exact absurd H (by simp)
   ·rw [if_neg c7] at H
    have c7b0 : (a1 == 0) = false := beq_eq_false_iff_ne.mpr c7
    have c7b1 : (a1 != 0) = true := bne_iff_ne.mpr c7
    simp only [Option.some.injEq, Prod.mk.injEq] at H
    obtain ⟨rfl, rfl, rfl⟩ := H
    go_enter Try.func97, Try.ntmps97
    go_wp2_with (first | ((with_reducible refine gate_callee (f := 139) rfl ?_); refine goesA (some 9) Try.func139 #[.pointer (some ⟨g, 0, none⟩)] ?_; (with_reducible refine (spec_l1Cur_next.calls g s0_0 s0_1 s0_2 t106 t107 t108 w0 _ ?side1 ?side2 A4.out).mono ?_); (case side1 => exact IsS68.at HI0); (case side2 => exact atB HB); rintro e w8 ⟨rfl, hi, hb, hk⟩; refine ⟨_, rfl, ?_⟩; replace HK := upK HK hk; replace HB := Aside0.mk (hb); replace HI0 := Aside0.mk (hi); (try clear hb); (try clear hb2); (try clear hk); (try clear hi)) | ((with_reducible refine gate_callee (f := 139) rfl ?_); refine goesA (some 15) Try.func139 #[.pointer (some ⟨g, 0, none⟩)] ?_; (with_reducible refine (spec_l1Cur_next.calls g s0_0 t107 t108 t109 t110 t111 w0 _ ?side1 ?side2 A6.out).mono ?_); (case side1 => exact IsS68.at HI0); (case side2 => exact atB HB); rintro e w9 ⟨rfl, hi, hb, hk⟩; refine ⟨_, rfl, ?_⟩; replace HK := upK HK hk; replace HB := Aside0.mk (hb); replace HI0 := Aside0.mk (hi); (try clear hb); (try clear hb2); (try clear hk); (try clear hi)))
    go_ret
    exact ⟨eqr, IsS68.at HI0, atB HB, atK HK⟩
  ·rw [if_neg c5] at H
   have c5b0 : decide (200 < a1) = false := decide_eq_false c5
   clear c5
   by_cases c10 : a1 = 0
   ·rw [if_pos c10] at H
    exact absurd H (by simp)
   ·rw [if_neg c10] at H
    have c10b0 : (a1 == 0) = false := beq_eq_false_iff_ne.mpr c10
    have c10b1 : (a1 != 0) = true := bne_iff_ne.mpr c10
    simp only [Option.some.injEq, Prod.mk.injEq] at H
    obtain ⟨rfl, rfl, rfl⟩ := H
    go_enter Try.func97, Try.ntmps97
    go_wp2_with (first | ((with_reducible refine gate_callee (f := 139) rfl ?_); refine goesA (some 9) Try.func139 #[.pointer (some ⟨g, 0, none⟩)] ?_; (with_reducible refine (spec_l1Cur_next.calls g s0_0 s0_1 s0_2 t106 t107 t108 w0 _ ?side1 ?side2 A4.out).mono ?_); (case side1 => exact IsS68.at HI0); (case side2 => exact atB HB); rintro e w11 ⟨rfl, hi, hb, hk⟩; refine ⟨_, rfl, ?_⟩; replace HK := upK HK hk; replace HB := Aside0.mk (hb); replace HI0 := Aside0.mk (hi); (try clear hb); (try clear hb2); (try clear hk); (try clear hi)))
    go_ret
    exact ⟨eqr, IsS68.at HI0, atB HB, atK HK⟩
/-! ### slices_Clone_int_int: function 101 (given) -/
def slices_Clone_int_int.f (l0 : List Int) : Option (List Int) := if l0.length < 17592186044416 then some l0 else none
theorem slices_Clone_int_int.app_room {y l : List Int} (h1 : l.length < 17592186044416) (h2 : y = []) : (y.length + l.length) * 8 ≤ 140737488355328 := by
 subst h2; simp; omega
set_option maxHeartbeats 8000000 in
set_option maxRecDepth 100000 in
theorem slices_Clone_int_int.calls (A0 : Option Addr) (c0 : Nat) (l0 : List Int) (r : List Int) (w : World) (hr0 : Kd.C (Kd.int .i64) w A0 l0.length l0) (hc0 : l0.length ≤ c0) (h : slices_Clone_int_int.f l0 = some r) :
  Calls Try.prog 101 #[.slice A0 l0.length c0] w fun e w' => ∃ v0_ : Value, e = .returned (v0_) ∧ Kd.R (Kd.int .i64) 3 w' w.heap.size (fun _ => True) v0_ r ∧ Below w.heap.size w w' := by
 have HR0 := Aside0.mk hr0
 have hlen : l0.length < 17592186044416 := by
  unfold slices_Clone_int_int.f at h
  split at h
  ·assumption
  ·cases h
 obtain rfl : l0 = r := by
  unfold slices_Clone_int_int.f at h
  rw [if_pos hlen] at h
  exact Option.some.inj h
 have LM := Aside0.mk hlen
 have HB := Aside0.mk (Below.refl w.heap.size w)
 have hu := Try.underlying24
 have heq := fun (w : World) => Lib.run_eql_slice_nil (P := Try.prog) w 24 3 A0 l0.length c0 0 0 hu
 clear h hlen hc0
 cases A0 with
 | none =>
  have hl : l0 = [] := by
   cases l0 with
   | nil => rfl
   | cons x xs =>
    obtain ⟨ad, e, _⟩ := hr0.2.2 (by simp)
    cases e
  have HL := Aside0.mk hl
  clear hr0 hl
  go_enter Try.func101, Try.ntmps101
  go_wp2
  go_ret
  exact ⟨_, rfl, by rw [HL.out]; exact Kd.R_nil _ _ _ _ _, atB HB⟩
 | some ad =>
  clear hr0
  obtain ⟨y113, hy113⟩ : ∃ y_ : List Int, y_ = (([] : List Int)) := ⟨_, rfl⟩
  have Ny113 := Aside0.mk hy113
  clear hy113
  obtain ⟨y116, hy116⟩ : ∃ y_ : List Int, y_ = (y113 ++ l0) := ⟨_, rfl⟩
  have Ny116 := Aside0.mk hy116
  clear hy116
  go_enter Try.func101, Try.ntmps101
  go_wp2_with (first | ((with_reducible refine gate_dst (N := 5) rfl ?_); refine Kd.R_lit (Kd.int .i64) _ 3 ?hg (N := 5) ?hd (xs := ([] : List Int)) (inner := []) (ok := fun _ => True) (okp := fun _ => True) ?hr ?hp (fun _ hk => hk) trivial (Below.refl _ _) (Nat.le_refl _) (by simp) ?_; (case hd => rfl); (case hg => rfl); (case hr => first | (go_simp; done) | (go_simp; rfl)); (case hp => exact (Reps.none _ _)); intro v114 w3 ho4 hb hg_ hnew_; clear hg_ hnew_; (first | rw [← Ny113.out] at ho4 | (simp only [Int.reduceToNat] at ho4; rw [← Ny113.out] at ho4)); have HO115 := lowR ho4 HB; replace HB := upB HB hb; clear hb ho4) | ((with_reducible refine gate_builtin (b := .append) (xs := #[.tmp 5, .tmp 6]) rfl ?_); at_builtin; refine Kd.R_append_rows (Kd.int .i64) (w0 := w) w.heap.size rfl (.tmp 5) (.tmp 6) 24 3 (.int .i64 0) 8 rfl Try.underlying24 info3 rfl (by decide) (by omega) v114 y113 l0 _ _ _ (fun _ => True) (fun _ => False) rfl rfl ?aO ?aR (fun _ _ h => h) (fun _ h => h.elim) ?aF ?aB ?aS ?aL ?_; (case aR => repeat (first | exact (Kd.C_below HR0.out HB.out) | (with_reducible refine Kd.C_alloc ?_ _) | (with_reducible refine Kd.C_drewN ?_ _) | (with_reducible refine Kd.C_drew ?_))); (case aB => exact (atB HB)); (case aF => exact (fun _ _ => trivial)); (case aO => exact (atR HO115)); (case aS => exact (szB HB)); (case aL => exact slices_Clone_int_int.app_room LM.out Ny113.out); intro v117 w5 ho hb hg hat; rw [← Ny116.out] at ho; have HO118 := Aside0.mk (ho); replace HB := Aside0.mk (hb); clear HO115; clear ho hb hg hat))
  go_ret
  exact ⟨_, rfl, by (with_reducible repeat (first | apply Kd.R_alloc | apply Kd.R_drewN | apply Kd.R_drew)); have h := HO118.out; rw [Ny116.out, Ny113.out, List.nil_append] at h; exact h, atB HB⟩
/-! ### impl_differences: function 122 -/
def impl_differences.l0 : Nat → List Int → Int → List Int → Int → Option (List Int)
 | 0, _, _, _, _ => none
 | k + 1, x0, x1, x5, x6 => if x6 < (x0.length : Int) then (if 0 ≤ x6 then (if 0 ≤ (wrap64 (x6 - x1)) then (if (wrap64 (x6 - x1)) < (x0.length : Int) then (if x5.length < 17592186044416 then (impl_differences.l0 k x0 x1 (x5 ++ [wrap64 ((rd x0 x6) - (rd x0 (wrap64 (x6 - x1))))]) (wrap64 (x6 + 1))) else (none)) else (none)) else (none)) else (none)) else (some x5)
def impl_differences.f (k : Nat) (l0 : List Int) (a1 : Int) : Option (List Int) := impl_differences.l0 k l0 a1 ([] : List Int) a1
theorem impl_differences.mono_l : ∀ k, (∀ y0 y1 y2 y3, LeO (impl_differences.l0 k y0 y1 y2 y3) (impl_differences.l0 (k + 1) y0 y1 y2 y3))
 | 0 => fun _ _ _ _ r h => by simp [impl_differences.l0] at h
 | k + 1 => by
  have ih0 := impl_differences.mono_l k
  ·intro y0 y1 y2 y3
   unfold impl_differences.l0
   repeat' (first | (with_reducible first | exact ih0 _ _ _ _ | exact LeO.refl _ | exact LeO.none _ | refine LeO.ite ?_ ?_ | refine LeO.bind ?_ (fun _ => ?_)) | exact ih0 _ _ _ _ | exact LeO.none _ | refine LeO.ite ?_ ?_ | refine LeO.bind ?_ (fun _ => ?_))
theorem impl_differences.mono : ∀ a0 a1 k, LeO (impl_differences.f k a0 a1) (impl_differences.f (k + 1) a0 a1) := by
 intro a0 a1 k
 have ih0 := impl_differences.mono_l k
 unfold impl_differences.f
 repeat' (first | (with_reducible first | exact ih0 _ _ _ _ | exact LeO.refl _ | exact LeO.none _ | refine LeO.ite ?_ ?_ | refine LeO.bind ?_ (fun _ => ?_)) | exact ih0 _ _ _ _ | exact LeO.none _ | refine LeO.ite ?_ ?_ | refine LeO.bind ?_ (fun _ => ?_))
def impl_differences.T5 : Bool × List (List Nat × List Nat) := (true, [([], []), ([], []), ([], []), ([1, 2], [1, 2]), ([3], [3]), ([], []), ([], []), ([], []), ([6, 7], [6, 7]), ([5, 8], [5, 8]), ([9], [9]), ([4, 10], [4, 10]), ([11], [11]), ([0, 12], [0, 12]), ([13, 13, 0, 1, 2, 3, 4, 5, 6, 7, 8, 9, 10, 11, 12, 13], [0, 13])])
def impl_differences.B5 : List Nat := [0, 0, 0, 6, 14, 0, 0, 0, 192, 480, 992, 2046, 4094, 8191, 16383]
theorem impl_differences.tab5 : rtab .any (opsOf Try.f122 5) = impl_differences.T5 := by kernel_rfl
theorem impl_differences.bits5 : waitsOk impl_differences.T5.2 impl_differences.B5 = true := by kernel_rfl
set_option maxHeartbeats 8000000 in
set_option maxRecDepth 100000 in
theorem impl_differences.calls (k : Nat) (A0 : Option Addr) (c0 : Nat) (l0 : List Int) (a1 : Int) (r : List Int) (w : World) (hr0 : Kd.C (Kd.int .i64) w A0 l0.length l0) (hc0 : l0.length ≤ c0) (h : impl_differences.f k l0 a1 = some r) :
  Calls Try.prog 122 #[.slice A0 l0.length c0, .int .i64 a1] w fun e w' => ∃ v0_ : Value, e = .returned (v0_) ∧ Kd.R (Kd.int .i64) 3 w' w.heap.size (fun _ => True) v0_ r ∧ Below w.heap.size w w' := by
 have HR0 := Aside0.mk hr0
 have HC0 := Aside0.mk hc0
 clear hr0 hc0
 have HB := Aside0.mk (Below.refl w.heap.size w)
 have H := h
 unfold impl_differences.f at H
 clear h
 have H' := Aside0.mk H
 clear H
 go_enter Try.func122, Try.ntmps122
 go_wp2
 go_loopg [5, 6] k (fun kq v5 v6 w' => ∃ (x5_1 : List Int) (x6_1 : Int), v6 = .int .i64 x6_1 ∧ Aside0 (impl_differences.l0 kq l0 a1 x5_1 x6_1 = some r) ∧ Aside0 (kq ≤ k) ∧ Aside0 (Kd.R (Kd.int .i64) 3 w' w.heap.size (fun _ => True) v5 x5_1) ∧ Aside0 (Below w.heap.size w w'))
 case atStart => exact ⟨(([] : List Int)), (a1), eqd, H', ⟨Nat.le_refl _⟩, ⟨by first | exact Kd.R_nil _ _ _ _ _ | exact Kd.N_nil _ _ _ _ _ | exact Kd.V_nil _ _ _ _ _ | exact Kd.Q_nil _ _ _ _ _ | exact Kd.S_nil _ _ _ _ _⟩, ⟨atB HB⟩⟩
 case round =>
  clear H'
  try clear c1
  try clear p2
  obtain ⟨x5_1, x6_1, rfl, HA, HK1, HO_5, HB⟩ := hrel
  cases gk with
  | zero => exact absurd HA.out (by simp [impl_differences.l0])
  | succ k1 =>
   have H := HA.out
   clear HA
   simp only [impl_differences.l0] at H
   by_cases c3 : x6_1 < (l0.length : Int)
   ·rw [if_pos c3] at H
    have c3b0 : decide (x6_1 < (l0.length : Int)) = true := decide_eq_true c3
    clear c3
    by_cases c4 : 0 ≤ x6_1
    ·rw [if_pos c4] at H
     have c4b0 : decide (0 ≤ x6_1) = true := decide_eq_true c4
     clear c4
     obtain ⟨ji5, hji5⟩ : ∃ j_ : Int, (wrap64 (x6_1 - a1)) = j_ := ⟨_, rfl⟩
     replace H : (if 0 ≤ (ji5) then (if (ji5) < (l0.length : Int) then (if x5_1.length < 17592186044416 then (impl_differences.l0 k1 l0 a1 (x5_1 ++ [wrap64 ((rd l0 x6_1) - (rd l0 (ji5)))]) (wrap64 (x6_1 + 1))) else (none)) else (none)) else (none)) = some r := by first | (rw [hji5] at H; exact H) | (simp only [hji5] at H ⊢; exact H)
     have hji5w : (IntKind.i64.wrap (x6_1 - a1)) = ji5 := (i64_w _).trans hji5
     by_cases c6 : 0 ≤ (ji5)
     ·rw [if_pos c6] at H
      have c6b0 : decide (0 ≤ (ji5)) = true := decide_eq_true c6
      clear c6
      by_cases c7 : (ji5) < (l0.length : Int)
      ·rw [if_pos c7] at H
       have c7b0 : decide ((ji5) < (l0.length : Int)) = true := decide_eq_true c7
       clear c7
       by_cases c8 : x5_1.length < 17592186044416
       ·rw [if_pos c8] at H
        have LMc8 := Aside0.mk c8
        clear c8
        obtain ⟨y803, hy803⟩ : ∃ y_ : List Int, y_ = (x5_1 ++ [wrap64 ((rd l0 x6_1) - (rd l0 (ji5)))]) := ⟨_, rfl⟩
        replace H : (impl_differences.l0 k1 l0 a1 y803 (wrap64 (x6_1 + 1))) = some r := by first | (rw [hy803]; with_reducible exact H) | (have H2_ := (Option.bind_some _ _).symm.trans H; rw [hy803]; with_reducible exact H2_) | (have H2_ := (Option.bind_some _ _).symm.trans H; with_reducible exact H2_) | with_reducible exact H | (rw [hy803]; exact H) | exact H
        have Ny803 := Aside0.mk hy803
        clear hy803
        have H' := Aside0.mk H
        clear H
        try go_wp2
        have n0_ := Aside0.mk (Kd.R_drew HO_5.out)
        have n1_ := Aside0.mk (below_drew1 HB.out)
        clear HO_5
        clear HB
        have HO_5 := n0_
        have HB := n1_
        clear n0_ n1_
        have p801 : 0 ≤ (x6_1 : Int) := ofd
        have q801 : x6_1 < (l0.length : Int) := ofd
        obtain ⟨ad801, e801, hx801_0⟩ := Kd.at_int HR0.out x6_1 p801 q801
        have hw801_0 := hx801_0
        cases e801
        (try replace hx801_0 := (HB.out.cell (World.block_lt_of_cell? w _ hx801_0)).trans hx801_0)
        replace p801 := eq_true p801
        replace q801 := eq_true q801
        have p802 : 0 ≤ ((ji5) : Int) := ofd
        have q802 : (ji5) < (l0.length : Int) := ofd
        obtain ⟨ad802, e802, hx802_0⟩ := Kd.at_int HR0.out (ji5) p802 q802
        have hw802_0 := hx802_0
        obtain rfl : ad801 = ad802 := (by injection e802)
        (try replace hx802_0 := (HB.out.cell (World.block_lt_of_cell? w _ hx802_0)).trans hx802_0)
        replace p802 := eq_true p802
        replace q802 := eq_true q802
        refine start_ (n := 15) (S := fun w' => w'.cell? (ad801.add (x6_1).toNat) = some (.int .i64 (rd l0 x6_1)) ∧ w'.cell? (ad801.add ((ji5)).toNat) = some (.int .i64 (rd l0 (ji5)))) (ds := []) #[false, false, false, false, false, false, false, false, false, false, false, false, false, false, false] (by kernel_rfl) rfl rfl ⟨((HB.out.cell (World.block_lt_of_cell? w _ hw801_0)).trans hw801_0), ((HB.out.cell (World.block_lt_of_cell? w _ hw802_0)).trans hw802_0)⟩ (fun hHeld => ?_); refine with_tabW impl_differences.tab5 impl_differences.bits5 (fun HT_ HW_ => ?_)
        generalize wr.drew = w9 at HO_5 HB hx801_0 hx802_0 hHeld ⊢
        refine pure_ (i := 0) (N := some 14) (v := ?_) (a' := ?_) #[true, false, false, false, false, false, false, false, false, false, false, false, false, false, false] rfl rfl (any_of HT_.out (by kernel_rfl)) (fun _ _ _ h => h) (Or.inl ⟨by rfl, ?_⟩) ?_ ?_
        rotate_left
        ·intro w'
         go_simp
         with_reducible rfl
        rotate_left
        ·simp only [Act.put, List.setIfInBounds_toArray, List.set_cons_zero, List.set_cons_succ, i64_w, i32_w]
         rfl
        refine pure_ (i := 1) (N := some 15) (v := ?_) (a' := ?_) #[true, true, false, false, false, false, false, false, false, false, false, false, false, false, false] rfl rfl (any_of HT_.out (by kernel_rfl)) (fun _ _ _ h => h) (Or.inl ⟨by rfl, ?_⟩) ?_ ?_
        rotate_left
        ·intro w'
         go_simp
         with_reducible rfl
        rotate_left
        ·simp only [Act.put, List.setIfInBounds_toArray, List.set_cons_zero, List.set_cons_succ, i64_w, i32_w]
         rfl
        refine pure_ (i := 2) (N := some 16) (v := ?_) (a' := ?_) #[true, true, true, false, false, false, false, false, false, false, false, false, false, false, false] rfl rfl (any_of HT_.out (by kernel_rfl)) (fun _ _ _ h => h) (Or.inl ⟨by rfl, ?_⟩) ?_ ?_
        rotate_left
        ·intro w'
         go_simp
         with_reducible rfl
        rotate_left
        ·simp only [Act.put, List.setIfInBounds_toArray, List.set_cons_zero, List.set_cons_succ, i64_w, i32_w]
         rfl
        refine pure_ (i := 3) (N := some 17) (v := ?_) (a' := ?_) #[true, true, true, true, false, false, false, false, false, false, false, false, false, false, false] rfl rfl (any_of HT_.out (by kernel_rfl)) (fun _ _ _ h => h) (Or.inl ⟨by rfl, ?_⟩) ?_ ?_
        rotate_left
        ·intro w'
         go_simp
         with_reducible rfl
        rotate_left
        ·simp only [Act.put, List.setIfInBounds_toArray, List.set_cons_zero, List.set_cons_succ, i64_w, i32_w]
         rfl
        refine pure_ (i := 5) (N := some 19) (v := ?_) (a' := ?_) #[true, true, true, true, false, true, false, false, false, false, false, false, false, false, false] rfl rfl (any_of HT_.out (by kernel_rfl)) (fun _ _ _ h => h) (Or.inl ⟨by rfl, ?_⟩) ?_ ?_
        rotate_left
        ·intro w'
         go_simp
         with_reducible rfl
        rotate_left
        ·simp only [Act.put, List.setIfInBounds_toArray, List.set_cons_zero, List.set_cons_succ, i64_w, i32_w]
         rfl
        refine pure_ (i := 6) (N := some 20) (v := ?_) (a' := ?_) #[true, true, true, true, false, true, true, false, false, false, false, false, false, false, false] rfl rfl (any_of HT_.out (by kernel_rfl)) (fun _ _ _ h => h) (Or.inl ⟨by rfl, ?_⟩) ?_ ?_
        rotate_left
        ·intro w'
         go_simp
         with_reducible rfl
        rotate_left
        ·simp only [Act.put, List.setIfInBounds_toArray, List.set_cons_zero, List.set_cons_succ, i64_w, i32_w]
         rfl
        refine pure_ (i := 7) (N := some 21) (v := ?_) (a' := ?_) #[true, true, true, true, false, true, true, true, false, false, false, false, false, false, false] rfl rfl (any_of HT_.out (by kernel_rfl)) (fun _ _ _ h => h) (Or.inl ⟨by rfl, ?_⟩) ?_ ?_
        rotate_left
        ·intro w'
         go_simp
         with_reducible rfl
        rotate_left
        ·simp only [Act.put, List.setIfInBounds_toArray, List.set_cons_zero, List.set_cons_succ, i64_w, i32_w]
         rfl
        refine pure_ (i := 8) (N := some 22) (v := ?_) (a' := ?_) #[true, true, true, true, false, true, true, true, true, false, false, false, false, false, false] rfl rfl (any_of HT_.out (by kernel_rfl)) (fun _ _ _ h => h) (Or.inl ⟨by rfl, ?_⟩) ?_ ?_
        rotate_left
        ·intro w'
         go_simp
         with_reducible rfl
        rotate_left
        ·simp only [Act.put, List.setIfInBounds_toArray, List.set_cons_zero, List.set_cons_succ, i64_w, i32_w]
         rfl
        refine pure_ (i := 9) (N := some 23) (v := ?_) (a' := ?_) #[true, true, true, true, false, true, true, true, true, true, false, false, false, false, false] rfl rfl (any_of HT_.out (by kernel_rfl)) (fun _ _ _ h => h) (Or.inl ⟨by rfl, ?_⟩) ?_ ?_
        rotate_left
        ·intro w'
         go_simp
         with_reducible rfl
        rotate_left
        ·simp only [Act.put, List.setIfInBounds_toArray, List.set_cons_zero, List.set_cons_succ, i64_w, i32_w]
         rfl
        refine take_ (i := 4) (N := some 18) (v := ?_) (a' := ?_) #[true, true, true, true, true, true, true, true, true, true, false, false, false, false, false] rfl rfl (take_ofW HT_.out HW_.out (by kernel_rfl)) (fun _ _ _ h => h) (Or.inl ⟨by rfl, ?_⟩) hHeld ?_ ?_
        rotate_left
        ·rintro w' ⟨s0, s1⟩
         go_simp
         with_reducible rfl
        rotate_left
        ·simp only [Act.put, List.setIfInBounds_toArray, List.set_cons_zero, List.set_cons_succ, i64_w, i32_w]
         rfl
        refine take_ (i := 10) (N := some 24) (v := ?_) (a' := ?_) #[true, true, true, true, true, true, true, true, true, true, true, false, false, false, false] rfl rfl (take_ofW HT_.out HW_.out (by kernel_rfl)) (fun _ _ _ h => h) (Or.inl ⟨by rfl, ?_⟩) hHeld ?_ ?_
        rotate_left
        ·rintro w' ⟨s0, s1⟩
         go_simp
         with_reducible rfl
        rotate_left
        ·simp only [Act.put, List.setIfInBounds_toArray, List.set_cons_zero, List.set_cons_succ, i64_w, i32_w]
         rfl
        refine pure_ (i := 11) (N := some 25) (v := ?_) (a' := ?_) #[true, true, true, true, true, true, true, true, true, true, true, true, false, false, false] rfl rfl (any_of HT_.out (by kernel_rfl)) (fun _ _ _ h => h) (Or.inl ⟨by rfl, ?_⟩) ?_ ?_
        rotate_left
        ·intro w'
         go_simp
         with_reducible rfl
        rotate_left
        ·simp only [Act.put, List.setIfInBounds_toArray, List.set_cons_zero, List.set_cons_succ, i64_w, i32_w]
         rfl
        refine one_ (i := 12) (N := some 26) #[true, true, true, true, true, true, true, true, true, true, true, true, true, false, false] rfl rfl (one_of HT_.out (by kernel_rfl)) (by decide) (fun K hK => ?_)
        refine value_ (w1 := ?_) (v := ?_) (by rfl) rfl ?_ ?_
        rotate_left 2
        ·go_simp
         constructor
         ·rfl
         ·rfl
        refine hK.out _ _ ⟨(World.cell?_alloc_lt _ _ _ (World.block_lt_of_cell? _ _ (((HB.out.cell (World.block_lt_of_cell? w _ hw801_0)).trans hw801_0)))).trans (((HB.out.cell (World.block_lt_of_cell? w _ hw801_0)).trans hw801_0)), (World.cell?_alloc_lt _ _ _ (World.block_lt_of_cell? _ _ (((HB.out.cell (World.block_lt_of_cell? w _ hw802_0)).trans hw802_0)))).trans (((HB.out.cell (World.block_lt_of_cell? w _ hw802_0)).trans hw802_0))⟩ (fun hHeld => ?_)
        clear hK K
        refine norm_ (a' := ?_) ?_ ?_
        rotate_left
        ·show Act.put _ (some 26) _ = _
         simp only [Act.put, List.setIfInBounds_toArray, List.set_cons_zero, List.set_cons_succ, i64_w, i32_w]
         rfl
        refine one_ (i := 13) (N := some 27) #[true, true, true, true, true, true, true, true, true, true, true, true, true, true, false] rfl rfl (one_of HT_.out (by kernel_rfl)) (by decide) (fun K hK => ?_)
        refine Kd.R_append_step (Kd.int .i64) (w0 := w) w.heap.size (by rfl) (.tmp 14) (.tmp 26) 24 3 (.int .i64 0) 8 rfl Try.underlying24 info3 rfl (by decide) (by omega) u5 x5_1 (wrap64 ((rd l0 x6_1) - (rd l0 (ji5)))) [.int .i64 (wrap64 ((rd l0 x6_1) - (rd l0 (ji5))))] (fun _ => True) (fun _ => False) rfl rfl ?aP (fun _ hk => hk.elim) ?aF ?aO ?aB ?aS ?aL ?_
        (case aP => exact rfl)
        (case aB => exact (atB HB))
        (case aF => exact (fun _ _ => trivial))
        (case aO => exact (atR HO_5))
        (case aS => exact (szB HB))
        (case aL => have := LMc8.out; omega)
        intro v804 w10 ho hb hg hat
        rw [← Ny803.out] at ho
        have n0_ := Aside0.mk (hb)
        have n1_ := Aside0.mk (ho)
        clear HB
        clear HO_5
        have HB := n0_
        have HO805 := n1_
        clear n0_ n1_
        clear ho hb hg hat
        refine hK.out _ _ ⟨((HB.out.cell (World.block_lt_of_cell? w _ hw801_0)).trans hw801_0), ((HB.out.cell (World.block_lt_of_cell? w _ hw802_0)).trans hw802_0)⟩ (fun hHeld => ?_)
        clear hK K
        refine norm_ (a' := ?_) ?_ ?_
        rotate_left
        ·show Act.put _ (some 27) _ = _
         simp only [Act.put, List.setIfInBounds_toArray, List.set_cons_zero, List.set_cons_succ, i64_w, i32_w]
         rfl
        refine pure_ (i := 14) (N := some 5) (v := ?_) (a' := ?_) #[true, true, true, true, true, true, true, true, true, true, true, true, true, true, true] rfl rfl (any_of HT_.out (by kernel_rfl)) (fun _ _ _ h => h) (Or.inl ⟨by rfl, ?_⟩) ?_ ?_
        rotate_left
        ·intro w'
         go_simp
         with_reducible rfl
        rotate_left
        ·simp only [Act.put, List.setIfInBounds_toArray, List.set_cons_zero, List.set_cons_succ, i64_w, i32_w]
         rfl
        refine done_ (done_of HT_.out (by kernel_rfl)) ?_
        try go_wp2
        first | go_roundg k1 | ((try subst hji5); go_roundg k1)
        case measure => have := HK1.out; omega
        case rel => exact ⟨(y803), (wrap64 (x6_1 + 1)), eqd, H', ⟨by have := HK1.out; omega⟩, ⟨atR HO805⟩, ⟨atB HB⟩⟩
       ·rw [if_neg c8] at H
        exact absurd H (by simp)
      ·rw [if_neg c7] at H
       exact absurd H (by simp)
     ·rw [if_neg c6] at H
      exact absurd H (by simp)
    ·rw [if_neg c4] at H
     exact absurd H (by simp)
   ·rw [if_neg c3] at H
    have c3b0 : decide (x6_1 < (l0.length : Int)) = false := decide_eq_false c3
    clear c3
    obtain rfl := Option.some.inj H
    go_wp2
    go_ret
    exact ⟨_, eqr, atR HO_5, atB HB⟩
noncomputable def impl_differences.L0 (x0 : List Int) (x1 : Int) (x5 : List Int) (x6 : Int) : Option (List Int) := lim fun k => impl_differences.l0 k x0 x1 x5 x6
theorem impl_differences.L0_lim (x0 : List Int) (x1 : Int) (x5 : List Int) (x6 : Int) : Lim (fun k => impl_differences.l0 k x0 x1 x5 x6) (impl_differences.L0 x0 x1 x5 x6) := Lim.of fun k => (impl_differences.mono_l k) x0 x1 x5 x6
noncomputable def impl_differences.F (l0 : List Int) (a1 : Int) : Option (List Int) := lim fun k => impl_differences.f k l0 a1
theorem impl_differences.F_lim (l0 : List Int) (a1 : Int) : Lim (fun k => impl_differences.f k l0 a1) (impl_differences.F l0 a1) := Lim.of fun k => impl_differences.mono l0 a1 k
theorem impl_differences.L0_eq (x0 : List Int) (x1 : Int) (x5 : List Int) (x6 : Int) : impl_differences.L0 x0 x1 x5 x6 = (if x6 < (x0.length : Int) then (if 0 ≤ x6 then (if 0 ≤ (wrap64 (x6 - x1)) then (if (wrap64 (x6 - x1)) < (x0.length : Int) then (if x5.length < 17592186044416 then (impl_differences.L0 x0 x1 (x5 ++ [wrap64 ((rd x0 x6) - (rd x0 (wrap64 (x6 - x1))))]) (wrap64 (x6 + 1))) else (none)) else (none)) else (none)) else (none)) else (some x5)) :=
 Lim.step (f := fun k => impl_differences.l0 (k + 1) x0 x1 x5 x6) (impl_differences.L0_lim x0 x1 x5 x6) (fun _ => rfl) (by
  simp only [impl_differences.l0]
  repeat' (first | (with_reducible first | exact Lim.const _ | exact impl_differences.L0_lim _ _ _ _ | refine Lim.ite ?_ ?_ | refine Lim.bind ?_ (fun _ => ?_))))
theorem impl_differences.F_eq (l0 : List Int) (a1 : Int) : impl_differences.F l0 a1 = (impl_differences.L0 l0 a1 ([] : List Int) a1) :=
 Lim.unique (impl_differences.F_lim l0 a1) (by
  unfold impl_differences.f
  repeat' (first | (with_reducible first | exact Lim.const _ | exact impl_differences.L0_lim _ _ _ _ | refine Lim.ite ?_ ?_ | refine Lim.bind ?_ (fun _ => ?_))))
/-! ### slices_Index_int_int: function 151 -/
def slices_Index_int_int.l0 : Nat → List Int → Int → Int → Int → Option (Int)
 | 0, _, _, _, _ => none
 | k + 1, x0, x1, x7, x8 => if x8 < x7 then (if 0 ≤ x8 then (if x8 < (x0.length : Int) then (if x1 = (rd x0 x8) then (some x8) else (slices_Index_int_int.l0 k x0 x1 x7 (wrap64 (x8 + 1)))) else (none)) else (none)) else (some (-1))
def slices_Index_int_int.f (k : Nat) (l0 : List Int) (a1 : Int) : Option (Int) := slices_Index_int_int.l0 k l0 a1 (l0.length : Int) 0
theorem slices_Index_int_int.mono_l : ∀ k, (∀ y0 y1 y2 y3, LeO (slices_Index_int_int.l0 k y0 y1 y2 y3) (slices_Index_int_int.l0 (k + 1) y0 y1 y2 y3))
 | 0 => fun _ _ _ _ r h => by simp [slices_Index_int_int.l0] at h
 | k + 1 => by
  have ih0 := slices_Index_int_int.mono_l k
  ·intro y0 y1 y2 y3
   unfold slices_Index_int_int.l0
   repeat' (first | (with_reducible first | exact ih0 _ _ _ _ | exact LeO.refl _ | exact LeO.none _ | refine LeO.ite ?_ ?_ | refine LeO.bind ?_ (fun _ => ?_)) | exact ih0 _ _ _ _ | exact LeO.none _ | refine LeO.ite ?_ ?_ | refine LeO.bind ?_ (fun _ => ?_))
theorem slices_Index_int_int.mono : ∀ a0 a1 k, LeO (slices_Index_int_int.f k a0 a1) (slices_Index_int_int.f (k + 1) a0 a1) := by
 intro a0 a1 k
 have ih0 := slices_Index_int_int.mono_l k
 unfold slices_Index_int_int.f
 repeat' (first | (with_reducible first | exact ih0 _ _ _ _ | exact LeO.refl _ | exact LeO.none _ | refine LeO.ite ?_ ?_ | refine LeO.bind ?_ (fun _ => ?_)) | exact ih0 _ _ _ _ | exact LeO.none _ | refine LeO.ite ?_ ?_ | refine LeO.bind ?_ (fun _ => ?_))
set_option maxHeartbeats 8000000 in
set_option maxRecDepth 100000 in
theorem slices_Index_int_int.calls (k : Nat) (A0 : Option Addr) (c0 : Nat) (l0 : List Int) (a1 : Int) (r : Int) (w : World) (hr0 : Kd.C (Kd.int .i64) w A0 l0.length l0) (hc0 : l0.length ≤ c0) (h : slices_Index_int_int.f k l0 a1 = some r) :
  Calls Try.prog 151 #[.slice A0 l0.length c0, .int .i64 a1] w fun e w' => e = .returned (.int .i64 r) ∧ Drawn0 w w' := by
 have HR0 := Aside0.mk hr0
 have HC0 := Aside0.mk hc0
 clear hr0 hc0
 have H := h
 unfold slices_Index_int_int.f at H
 clear h
 have H' := Aside0.mk H
 clear H
 go_enter Try.func151, Try.ntmps151
 go_wp2
 go_loopg [8] k (fun kq v8 w' => ∃ (x8_1 : Int), v8 = .int .i64 x8_1 ∧ Aside0 (slices_Index_int_int.l0 kq l0 a1 (l0.length : Int) x8_1 = some r) ∧ Aside0 (kq ≤ k) ∧ Drawn0 w w')
 case atStart => exact ⟨(0), eqd, H', ⟨Nat.le_refl _⟩, by repeat (first | exact Drawn0.refl _ | apply Drawn0.step)⟩
 case round =>
  clear H'
  try clear c1
  try clear p2
  obtain ⟨x8_1, rfl, HA, HK1, ⟨m1, rfl⟩⟩ := hrel
  cases gk with
  | zero => exact absurd HA.out (by simp [slices_Index_int_int.l0])
  | succ k1 =>
   have H := HA.out
   clear HA
   simp only [slices_Index_int_int.l0] at H
   by_cases c3 : x8_1 < (l0.length : Int)
   ·rw [if_pos c3] at H
    have c3b0 : decide (x8_1 < (l0.length : Int)) = true := decide_eq_true c3
    clear c3
    by_cases c4 : 0 ≤ x8_1
    ·rw [if_pos c4] at H
     have c4b0 : decide (0 ≤ x8_1) = true := decide_eq_true c4
     clear c4
     by_cases c5 : x8_1 < (l0.length : Int)
     ·rw [if_pos c5] at H
      have c5b0 : decide (x8_1 < (l0.length : Int)) = true := decide_eq_true c5
      clear c5
      by_cases c6 : a1 = (rd l0 x8_1)
      ·rw [if_pos c6] at H
       have c6b0 : (a1 == (rd l0 x8_1)) = true := beq_iff_eq.mpr c6
       have c6b1 : (a1 != (rd l0 x8_1)) = false := bne_eq_false_iff_eq.mpr c6
       clear c6
       obtain rfl := Option.some.inj H
       have p209 : 0 ≤ (x8_1 : Int) := ofd
       have q209 : x8_1 < (l0.length : Int) := ofd
       obtain ⟨ad209, e209, hx209_0⟩ := Kd.at_int HR0.out x8_1 p209 q209
       cases e209
       replace p209 := eq_true p209
       replace q209 := eq_true q209
       go_wp2
       go_ret
       exact ⟨by first | rfl | (simp; done) | (simp [*]; done), by repeat (first | exact Drawn0.refl _ | apply Drawn0.step)⟩
      ·rw [if_neg c6] at H
       have c6b0 : (a1 == (rd l0 x8_1)) = false := beq_eq_false_iff_ne.mpr c6
       have c6b1 : (a1 != (rd l0 x8_1)) = true := bne_iff_ne.mpr c6
       have H' := Aside0.mk H
       clear H
       have p209 : 0 ≤ (x8_1 : Int) := ofd
       have q209 : x8_1 < (l0.length : Int) := ofd
       obtain ⟨ad209, e209, hx209_0⟩ := Kd.at_int HR0.out x8_1 p209 q209
       cases e209
       replace p209 := eq_true p209
       replace q209 := eq_true q209
       go_wp2
       go_roundg k1
       case measure => have := HK1.out; omega
       case rel => exact ⟨(wrap64 (x8_1 + 1)), eqd, H', ⟨by have := HK1.out; omega⟩, by repeat (first | exact Drawn0.refl _ | apply Drawn0.step)⟩
     ·rw [if_neg c5] at H
      exact absurd H (by simp)
    ·rw [if_neg c4] at H
     exact absurd H (by simp)
   ·rw [if_neg c3] at H
    have c3b0 : decide (x8_1 < (l0.length : Int)) = false := decide_eq_false c3
    clear c3
    obtain rfl := Option.some.inj H
    go_wp2
    go_ret
    exact ⟨by first | rfl | (simp; done) | (simp [*]; done), by repeat (first | exact Drawn0.refl _ | apply Drawn0.step)⟩
noncomputable def slices_Index_int_int.L0 (x0 : List Int) (x1 : Int) (x7 : Int) (x8 : Int) : Option (Int) := lim fun k => slices_Index_int_int.l0 k x0 x1 x7 x8
theorem slices_Index_int_int.L0_lim (x0 : List Int) (x1 : Int) (x7 : Int) (x8 : Int) : Lim (fun k => slices_Index_int_int.l0 k x0 x1 x7 x8) (slices_Index_int_int.L0 x0 x1 x7 x8) := Lim.of fun k => (slices_Index_int_int.mono_l k) x0 x1 x7 x8
noncomputable def slices_Index_int_int.F (l0 : List Int) (a1 : Int) : Option (Int) := lim fun k => slices_Index_int_int.f k l0 a1
theorem slices_Index_int_int.F_lim (l0 : List Int) (a1 : Int) : Lim (fun k => slices_Index_int_int.f k l0 a1) (slices_Index_int_int.F l0 a1) := Lim.of fun k => slices_Index_int_int.mono l0 a1 k
theorem slices_Index_int_int.L0_eq (x0 : List Int) (x1 : Int) (x7 : Int) (x8 : Int) : slices_Index_int_int.L0 x0 x1 x7 x8 = (if x8 < x7 then (if 0 ≤ x8 then (if x8 < (x0.length : Int) then (if x1 = (rd x0 x8) then (some x8) else (slices_Index_int_int.L0 x0 x1 x7 (wrap64 (x8 + 1)))) else (none)) else (none)) else (some (-1))) :=
 Lim.step (f := fun k => slices_Index_int_int.l0 (k + 1) x0 x1 x7 x8) (slices_Index_int_int.L0_lim x0 x1 x7 x8) (fun _ => rfl) (by
  simp only [slices_Index_int_int.l0]
  repeat' (first | (with_reducible first | exact Lim.const _ | exact slices_Index_int_int.L0_lim _ _ _ _ | refine Lim.ite ?_ ?_ | refine Lim.bind ?_ (fun _ => ?_))))
theorem slices_Index_int_int.F_eq (l0 : List Int) (a1 : Int) : slices_Index_int_int.F l0 a1 = (slices_Index_int_int.L0 l0 a1 (l0.length : Int) 0) :=
 Lim.unique (slices_Index_int_int.F_lim l0 a1) (by
  unfold slices_Index_int_int.f
  repeat' (first | (with_reducible first | exact Lim.const _ | exact slices_Index_int_int.L0_lim _ _ _ _ | refine Lim.ite ?_ ?_ | refine Lim.bind ?_ (fun _ => ?_))))
/-! ### impl_repeat: function 119 -/
mutual
def impl_repeat.l0 : Nat → List Int → Int → Option (Int × Int × Int × Bool)
 | 0, _, _ => none
 | k + 1, x0, x6 => if x6 < (x0.length : Int) then ((impl_differences.f k x0 x6).bind fun t806 => (impl_repeat.l1 k x0 x6 t806 (t806.length : Int) 0)) else (some (0, 0, 0, false))
def impl_repeat.l1 : Nat → List Int → Int → List Int → Int → Int → Option (Int × Int × Int × Bool)
 | 0, _, _, _, _, _ => none
 | k + 1, x0, x6, x7, x20, x21 => if x21 < x20 then (if 0 ≤ x21 then (if x21 ≤ (x7.length : Int) then (if x21 < (x7.length : Int) then ((slices_Index_int_int.f k (x7.take (x21 : Int).toNat) (rd x7 x21)).bind fun t814 => (if t814 ≥ 0 then (some (x6, t814, x21, true)) else (impl_repeat.l1 k x0 x6 x7 x20 (wrap64 (x21 + 1))))) else (none)) else (none)) else (none)) else (impl_repeat.l0 k x0 (wrap64 (x6 + 1)))
end
def impl_repeat.f (k : Nat) (l0 : List Int) : Option (Int × Int × Int × Bool) := impl_repeat.l0 k l0 1
theorem impl_repeat.mono_l : ∀ k, (∀ y0 y1, LeO (impl_repeat.l0 k y0 y1) (impl_repeat.l0 (k + 1) y0 y1)) ∧ (∀ y0 y1 y2 y3 y4, LeO (impl_repeat.l1 k y0 y1 y2 y3 y4) (impl_repeat.l1 (k + 1) y0 y1 y2 y3 y4))
 | 0 => ⟨fun _ _ r h => by simp [impl_repeat.l0] at h, fun _ _ _ _ _ r h => by simp [impl_repeat.l1] at h⟩
 | k + 1 => by
  obtain ⟨ih0, ih1⟩ := impl_repeat.mono_l k
  refine ⟨?_, ?_⟩
  ·intro y0 y1
   unfold impl_repeat.l0
   repeat' (first | (with_reducible first | exact ih1 _ _ _ _ _ | exact impl_differences.mono _ _ _ | exact LeO.refl _ | exact LeO.none _ | refine LeO.ite ?_ ?_ | refine LeO.bind ?_ (fun _ => ?_)) | exact ih1 _ _ _ _ _ | exact impl_differences.mono _ _ _ | exact LeO.none _ | refine LeO.ite ?_ ?_ | refine LeO.bind ?_ (fun _ => ?_))
  ·intro y0 y1 y2 y3 y4
   unfold impl_repeat.l1
   repeat' (first | (with_reducible first | exact ih0 _ _ | exact ih1 _ _ _ _ _ | exact slices_Index_int_int.mono _ _ _ | exact LeO.refl _ | exact LeO.none _ | refine LeO.ite ?_ ?_ | refine LeO.bind ?_ (fun _ => ?_)) | exact ih0 _ _ | exact ih1 _ _ _ _ _ | exact slices_Index_int_int.mono _ _ _ | exact LeO.none _ | refine LeO.ite ?_ ?_ | refine LeO.bind ?_ (fun _ => ?_))
theorem impl_repeat.mono : ∀ a0 k, LeO (impl_repeat.f k a0) (impl_repeat.f (k + 1) a0) := by
 intro a0 k
 obtain ⟨ih0, ih1⟩ := impl_repeat.mono_l k
 unfold impl_repeat.f
 repeat' (first | (with_reducible first | exact ih0 _ _ | exact LeO.refl _ | exact LeO.none _ | refine LeO.ite ?_ ?_ | refine LeO.bind ?_ (fun _ => ?_)) | exact ih0 _ _ | exact LeO.none _ | refine LeO.ite ?_ ?_ | refine LeO.bind ?_ (fun _ => ?_))
set_option maxHeartbeats 8000000 in
set_option maxRecDepth 100000 in
theorem impl_repeat.calls (k : Nat) (A0 : Option Addr) (c0 : Nat) (l0 : List Int) (r1 : Int) (r2 : Int) (r3 : Int) (r4 : Bool) (w : World) (hr0 : Kd.C (Kd.int .i64) w A0 l0.length l0) (hc0 : l0.length ≤ c0) (h : impl_repeat.f k l0 = some (r1, r2, r3, r4)) :
  Calls Try.prog 119 #[.slice A0 l0.length c0] w fun e w' => e = .returned (.tuple #[.int .i64 r1, .int .i64 r2, .int .i64 r3, .bool r4]) ∧ Below w.heap.size w w' := by
 have HR0 := Aside0.mk hr0
 have HC0 := Aside0.mk hc0
 clear hr0 hc0
 have HB := Aside0.mk (Below.refl w.heap.size w)
 have H := h
 unfold impl_repeat.f at H
 clear h
 have H' := Aside0.mk H
 clear H
 go_enter Try.func119, Try.ntmps119
 go_wp2
 repeat (go_quiet (fail); try go_wp2)
 go_loopg [6] k (fun kq v6 w' => ∃ (x6_1 : Int), v6 = .int .i64 x6_1 ∧ Aside0 (impl_repeat.l0 kq l0 x6_1 = some (r1, r2, r3, r4)) ∧ Aside0 (kq ≤ k) ∧ Aside0 (Below w.heap.size w w'))
 case atStart => exact ⟨(1), eqd, H', ⟨Nat.le_refl _⟩, ⟨atB HB⟩⟩
 case round =>
  clear H'
  try clear c1
  obtain ⟨x6_1, rfl, HA, HK1, HB⟩ := hrel
  cases gk with
  | zero => exact absurd HA.out (by simp [impl_repeat.l0])
  | succ k1 =>
   have H := HA.out
   clear HA
   simp only [impl_repeat.l0] at H
   by_cases c2 : x6_1 < (l0.length : Int)
   ·rw [if_pos c2] at H
    have c2b0 : decide (x6_1 < (l0.length : Int)) = true := decide_eq_true c2
    clear c2
    replace H := Option.bind_eq_some_iff.mp H
    obtain ⟨t806, A30, H⟩ := H
    replace H : (impl_repeat.l1 k1 l0 x6_1 t806 (t806.length : Int) 0) = some (r1, r2, r3, r4) := H
    have A3 := Aside0.mk A30
    clear A30
    have H' := Aside0.mk H
    clear H
    go_wp2_with (first | (go_at_call 122; (with_reducible refine (impl_differences.calls k1 _ _ l0 x6_1 t806 _ ?side1 ?side2 A3.out).mono ?_); (case side1 => repeat (first | exact (Kd.C_below HR0.out HB.out) | (with_reducible refine Kd.C_alloc ?_ _) | (with_reducible refine Kd.C_drewN ?_ _) | (with_reducible refine Kd.C_drew ?_))); (case side2 => exact HC0.out); rintro e w4 ⟨v807, rfl, ho0, hb⟩; have HO808 := lowR ho0 HB; replace HB := upB HB hb; (try clear hb); (try clear hb2); (try clear hk); (try clear hi); (try clear ho0); obtain ⟨Ao5, co5, eo5⟩ := Kd.R_slice HO808.out; subst eo5))
    repeat (go_quiet (first | (go_at_call 122; (with_reducible refine (impl_differences.calls k1 _ _ l0 x6_1 t806 _ ?side1 ?side2 A3.out).mono ?_); (case side1 => repeat (first | exact (Kd.C_below HR0.out HB.out) | (with_reducible refine Kd.C_alloc ?_ _) | (with_reducible refine Kd.C_drewN ?_ _) | (with_reducible refine Kd.C_drew ?_))); (case side2 => exact HC0.out); rintro e w4 ⟨v807, rfl, ho0, hb⟩; have HO808 := lowR ho0 HB; replace HB := upB HB hb; (try clear hb); (try clear hb2); (try clear hk); (try clear hi); (try clear ho0); obtain ⟨Ao5, co5, eo5⟩ := Kd.R_slice HO808.out; subst eo5)); try go_wp2_with (first | (go_at_call 122; (with_reducible refine (impl_differences.calls k1 _ _ l0 x6_1 t806 _ ?side1 ?side2 A3.out).mono ?_); (case side1 => repeat (first | exact (Kd.C_below HR0.out HB.out) | (with_reducible refine Kd.C_alloc ?_ _) | (with_reducible refine Kd.C_drewN ?_ _) | (with_reducible refine Kd.C_drew ?_))); (case side2 => exact HC0.out); rintro e w4 ⟨v807, rfl, ho0, hb⟩; have HO808 := lowR ho0 HB; replace HB := upB HB hb; (try clear hb); (try clear hb2); (try clear hk); (try clear hi); (try clear ho0); obtain ⟨Ao5, co5, eo5⟩ := Kd.R_slice HO808.out; subst eo5)))
    go_loopg [21] k1 (fun kq v21 w' => ∃ (x21_2 : Int), v21 = .int .i64 x21_2 ∧ Aside0 (impl_repeat.l1 kq l0 x6_1 t806 (t806.length : Int) x21_2 = some (r1, r2, r3, r4)) ∧ Aside0 (kq ≤ k1) ∧ Aside0 (Kd.R (Kd.int .i64) 3 w' w.heap.size (fun _ => True) (.slice Ao5 t806.length co5) t806) ∧ Aside0 (Below w.heap.size w w'))
    case atStart => exact ⟨(0), eqd, H', ⟨Nat.le_refl _⟩, ⟨atR HO808⟩, ⟨atB HB⟩⟩
    case round =>
     clear H'
     try clear c1
     try clear c2
     try clear c2b0
     try clear p2
     obtain ⟨x21_2, rfl, HA, HK2, HO_7, HB⟩ := hrel
     cases gk with
     | zero => exact absurd HA.out (by simp [impl_repeat.l1])
     | succ k2 =>
      have H := HA.out
      clear HA
      simp only [impl_repeat.l1] at H
      by_cases c6 : x21_2 < (t806.length : Int)
      ·rw [if_pos c6] at H
       have c6b0 : decide (x21_2 < (t806.length : Int)) = true := decide_eq_true c6
       clear c6
       by_cases c7 : 0 ≤ x21_2
       ·rw [if_pos c7] at H
        have c7b0 := eq_true c7
        have c7b1 : decide (0 ≤ x21_2) = true := decide_eq_true c7
        clear c7
        by_cases c8 : x21_2 ≤ (t806.length : Int)
        ·rw [if_pos c8] at H
         have c8b0 := eq_true c8
         have c8b1 : decide (x21_2 ≤ (t806.length : Int)) = true := decide_eq_true c8
         clear c8
         obtain ⟨y809, hy809⟩ : ∃ y_ : List Int, y_ = (t806.take (x21_2 : Int).toNat) := ⟨_, rfl⟩
         replace H : (if x21_2 < (t806.length : Int) then ((slices_Index_int_int.f k2 y809 (rd t806 x21_2)).bind fun t814 => (if t814 ≥ 0 then (some (x6_1, t814, x21_2, true)) else (impl_repeat.l1 k2 l0 x6_1 t806 (t806.length : Int) (wrap64 (x21_2 + 1))))) else (none)) = some (r1, r2, r3, r4) := by first | (rw [hy809]; with_reducible exact H) | (have H2_ := (Option.bind_some _ _).symm.trans H; rw [hy809]; with_reducible exact H2_) | (have H2_ := (Option.bind_some _ _).symm.trans H; with_reducible exact H2_) | with_reducible exact H | (rw [hy809]; exact H) | exact H
         have Ny809 := Aside0.mk hy809
         clear hy809
         by_cases c9 : x21_2 < (t806.length : Int)
         ·rw [if_pos c9] at H
          have c9b0 : decide (x21_2 < (t806.length : Int)) = true := decide_eq_true c9
          clear c9
          replace H := Option.bind_eq_some_iff.mp H
          obtain ⟨t814, A100, H⟩ := H
          replace H : (if t814 ≥ 0 then (some (x6_1, t814, x21_2, true)) else (impl_repeat.l1 k2 l0 x6_1 t806 (t806.length : Int) (wrap64 (x21_2 + 1)))) = some (r1, r2, r3, r4) := H
          have A10 := Aside0.mk A100
          clear A100
          by_cases c11 : t814 ≥ 0
          ·rw [if_pos c11] at H
           have c11b0 : decide (0 ≤ t814) = true := decide_eq_true c11
           clear c11
           simp only [Option.some.injEq, Prod.mk.injEq] at H
           obtain ⟨rfl, rfl, rfl, rfl⟩ := H
           have q12 : (x21_2 : Int) ≤ ((t806.length : Int) : Int) := ofd
           obtain ⟨i012, hi012, _, hsz12, _⟩ := info_parts info3
           have hroom12 : t806.length ≤ co5 := (Kd.R_reads' HO_7.out).2.1
           have hC12 : Kd.C (Kd.int .i64) _ Ao5 t806.length t806 := (Kd.R_reads' HO_7.out).2.2
           have hcut12 := cut_to (P := Try.prog) 24 3 .i64 Try.underlying24 hi012 Ao5 t806.length co5 x21_2 (of_decide_eq_true (by first | (with_reducible assumption) | assumption)) q12 hroom12
           have hr12 := Kd.C_take (m := (x21_2 : Int).toNat) hC12 (by omega)
           have hy12 : y809.length = (x21_2 : Int).toNat := (by rw [Ny809.out, List.length_take]; omega)
           rw [← Ny809.out] at hr12
           rw [← hy12] at hcut12
           have HR812 := Aside0.mk hr12
           have HC812 := Aside0.mk (show y809.length ≤ co5 from by omega)
           clear hr12 hC12 hroom12 hi012 hsz12
           have KY12 := Aside0.mk hy12
           clear hy12
           have KL12 := Aside0.mk (show (x21_2 : Int).toNat ≤ t806.length from by omega)
           replace q12 := eq_true q12
           have p813 : 0 ≤ (x21_2 : Int) := ofd
           have q813 : x21_2 < (t806.length : Int) := ofd
           obtain ⟨ad813, e813, hx813_0⟩ := Kd.at_int (Kd.R_reads' HO_7.out).2.2 x21_2 p813 q813
           cases e813
           replace p813 := eq_true p813
           replace q813 := eq_true q813
           go_wp2_with (first | (go_at_call 151; (with_reducible refine (slices_Index_int_int.calls k2 _ _ y809 (rd t806 x21_2) t814 _ ?side1 ?side2 A10.out).mono ?_); (case side1 => exact atC HR812); (case side2 => exact HC812.out); rintro e w' ⟨rfl, ⟨nd, rfl⟩⟩; (try first | exact ⟨rfl, _, World.drewN_drewN _ _ _⟩ | exact ⟨rfl, _, Eq.trans (World.drewN_drewN _ _ _) (congrArg (World.drewN _) (Nat.add_assoc _ _ _))⟩)))
           repeat (go_quiet (first | (go_at_call 151; (with_reducible refine (slices_Index_int_int.calls k2 _ _ y809 (rd t806 x21_2) t814 _ ?side1 ?side2 A10.out).mono ?_); (case side1 => exact atC HR812); (case side2 => exact HC812.out); rintro e w' ⟨rfl, ⟨nd, rfl⟩⟩; (try first | exact ⟨rfl, _, World.drewN_drewN _ _ _⟩ | exact ⟨rfl, _, Eq.trans (World.drewN_drewN _ _ _) (congrArg (World.drewN _) (Nat.add_assoc _ _ _))⟩))); try go_wp2_with (first | (go_at_call 151; (with_reducible refine (slices_Index_int_int.calls k2 _ _ y809 (rd t806 x21_2) t814 _ ?side1 ?side2 A10.out).mono ?_); (case side1 => exact atC HR812); (case side2 => exact HC812.out); rintro e w' ⟨rfl, ⟨nd, rfl⟩⟩; (try first | exact ⟨rfl, _, World.drewN_drewN _ _ _⟩ | exact ⟨rfl, _, Eq.trans (World.drewN_drewN _ _ _) (congrArg (World.drewN _) (Nat.add_assoc _ _ _))⟩))))
           refine bodyPost_ret (results_list (rs := [.tmp 2, .tmp 3, .tmp 4, .tmp 5]) rfl (by simp) (.tmp (.tmp (.tmp (.tmp .nil))))) rfl ?_
           exact ⟨eqr, atB HB⟩
          ·rw [if_neg c11] at H
           have c11b0 : decide (0 ≤ t814) = false := decide_eq_false c11
           clear c11
           have H' := Aside0.mk H
           clear H
           have q13 : (x21_2 : Int) ≤ ((t806.length : Int) : Int) := ofd
           obtain ⟨i013, hi013, _, hsz13, _⟩ := info_parts info3
           have hroom13 : t806.length ≤ co5 := (Kd.R_reads' HO_7.out).2.1
           have hC13 : Kd.C (Kd.int .i64) _ Ao5 t806.length t806 := (Kd.R_reads' HO_7.out).2.2
           have hcut13 := cut_to (P := Try.prog) 24 3 .i64 Try.underlying24 hi013 Ao5 t806.length co5 x21_2 (of_decide_eq_true (by first | (with_reducible assumption) | assumption)) q13 hroom13
           have hr13 := Kd.C_take (m := (x21_2 : Int).toNat) hC13 (by omega)
           have hy13 : y809.length = (x21_2 : Int).toNat := (by rw [Ny809.out, List.length_take]; omega)
           rw [← Ny809.out] at hr13
           rw [← hy13] at hcut13
           have HR812 := Aside0.mk hr13
           have HC812 := Aside0.mk (show y809.length ≤ co5 from by omega)
           clear hr13 hC13 hroom13 hi013 hsz13
           have KY13 := Aside0.mk hy13
           clear hy13
           have KL13 := Aside0.mk (show (x21_2 : Int).toNat ≤ t806.length from by omega)
           replace q13 := eq_true q13
           have p813 : 0 ≤ (x21_2 : Int) := ofd
           have q813 : x21_2 < (t806.length : Int) := ofd
           obtain ⟨ad813, e813, hx813_0⟩ := Kd.at_int (Kd.R_reads' HO_7.out).2.2 x21_2 p813 q813
           cases e813
           replace p813 := eq_true p813
           replace q813 := eq_true q813
           go_wp2_with (first | (go_at_call 151; (with_reducible refine (slices_Index_int_int.calls k2 _ _ y809 (rd t806 x21_2) t814 _ ?side1 ?side2 A10.out).mono ?_); (case side1 => exact atC HR812); (case side2 => exact HC812.out); rintro e w' ⟨rfl, ⟨nd, rfl⟩⟩; (try first | exact ⟨rfl, _, World.drewN_drewN _ _ _⟩ | exact ⟨rfl, _, Eq.trans (World.drewN_drewN _ _ _) (congrArg (World.drewN _) (Nat.add_assoc _ _ _))⟩)))
           repeat (go_quiet (first | (go_at_call 151; (with_reducible refine (slices_Index_int_int.calls k2 _ _ y809 (rd t806 x21_2) t814 _ ?side1 ?side2 A10.out).mono ?_); (case side1 => exact atC HR812); (case side2 => exact HC812.out); rintro e w' ⟨rfl, ⟨nd, rfl⟩⟩; (try first | exact ⟨rfl, _, World.drewN_drewN _ _ _⟩ | exact ⟨rfl, _, Eq.trans (World.drewN_drewN _ _ _) (congrArg (World.drewN _) (Nat.add_assoc _ _ _))⟩))); try go_wp2_with (first | (go_at_call 151; (with_reducible refine (slices_Index_int_int.calls k2 _ _ y809 (rd t806 x21_2) t814 _ ?side1 ?side2 A10.out).mono ?_); (case side1 => exact atC HR812); (case side2 => exact HC812.out); rintro e w' ⟨rfl, ⟨nd, rfl⟩⟩; (try first | exact ⟨rfl, _, World.drewN_drewN _ _ _⟩ | exact ⟨rfl, _, Eq.trans (World.drewN_drewN _ _ _) (congrArg (World.drewN _) (Nat.add_assoc _ _ _))⟩))))
           go_roundg k2
           case measure => have := HK1.out; have := HK2.out; omega
           case rel => exact ⟨(wrap64 (x21_2 + 1)), eqd, H', ⟨by have := HK1.out; have := HK2.out; omega⟩, ⟨atR HO_7⟩, ⟨atB HB⟩⟩
         ·rw [if_neg c9] at H
          exact absurd H (by simp)
        ·rw [if_neg c8] at H
         exact absurd H (by simp)
       ·rw [if_neg c7] at H
        exact absurd H (by simp)
      ·rw [if_neg c6] at H
       have c6b0 : decide (x21_2 < (t806.length : Int)) = false := decide_eq_false c6
       clear c6
       have H' := Aside0.mk H
       clear H
       go_wp2
       repeat (go_quiet (fail); try go_wp2)
       go_roundg k2
       case measure => have := HK1.out; have := HK2.out; omega
       case rel => exact ⟨(wrap64 (x6_1 + 1)), eqd, H', ⟨by have := HK1.out; have := HK2.out; omega⟩, ⟨atB HB⟩⟩
   ·rw [if_neg c2] at H
    have c2b0 : decide (x6_1 < (l0.length : Int)) = false := decide_eq_false c2
    clear c2
    simp only [Option.some.injEq, Prod.mk.injEq] at H
    obtain ⟨rfl, rfl, rfl, rfl⟩ := H
    go_wp2
    repeat (go_quiet (fail); try go_wp2)
    refine bodyPost_ret (results_list (rs := [.tmp 2, .tmp 3, .tmp 4, .tmp 5]) rfl (by simp) (.tmp (.tmp (.tmp (.tmp .nil))))) rfl ?_
    exact ⟨eqr, atB HB⟩
noncomputable def impl_repeat.L0 (x0 : List Int) (x6 : Int) : Option (Int × Int × Int × Bool) := lim fun k => impl_repeat.l0 k x0 x6
theorem impl_repeat.L0_lim (x0 : List Int) (x6 : Int) : Lim (fun k => impl_repeat.l0 k x0 x6) (impl_repeat.L0 x0 x6) := Lim.of fun k => (impl_repeat.mono_l k).1 x0 x6
noncomputable def impl_repeat.L1 (x0 : List Int) (x6 : Int) (x7 : List Int) (x20 : Int) (x21 : Int) : Option (Int × Int × Int × Bool) := lim fun k => impl_repeat.l1 k x0 x6 x7 x20 x21
theorem impl_repeat.L1_lim (x0 : List Int) (x6 : Int) (x7 : List Int) (x20 : Int) (x21 : Int) : Lim (fun k => impl_repeat.l1 k x0 x6 x7 x20 x21) (impl_repeat.L1 x0 x6 x7 x20 x21) := Lim.of fun k => (impl_repeat.mono_l k).2 x0 x6 x7 x20 x21
noncomputable def impl_repeat.F (l0 : List Int) : Option (Int × Int × Int × Bool) := lim fun k => impl_repeat.f k l0
theorem impl_repeat.F_lim (l0 : List Int) : Lim (fun k => impl_repeat.f k l0) (impl_repeat.F l0) := Lim.of fun k => impl_repeat.mono l0 k
theorem impl_repeat.L0_eq (x0 : List Int) (x6 : Int) : impl_repeat.L0 x0 x6 = (if x6 < (x0.length : Int) then ((impl_differences.F x0 x6).bind fun t806 => (impl_repeat.L1 x0 x6 t806 (t806.length : Int) 0)) else (some (0, 0, 0, false))) :=
 Lim.step (f := fun k => impl_repeat.l0 (k + 1) x0 x6) (impl_repeat.L0_lim x0 x6) (fun _ => rfl) (by
  simp only [impl_repeat.l0]
  repeat' (first | (with_reducible first | exact Lim.const _ | exact impl_differences.F_lim _ _ | exact impl_repeat.L1_lim _ _ _ _ _ | refine Lim.ite ?_ ?_ | refine Lim.bind ?_ (fun _ => ?_))))
theorem impl_repeat.L1_eq (x0 : List Int) (x6 : Int) (x7 : List Int) (x20 : Int) (x21 : Int) : impl_repeat.L1 x0 x6 x7 x20 x21 = (if x21 < x20 then (if 0 ≤ x21 then (if x21 ≤ (x7.length : Int) then (if x21 < (x7.length : Int) then ((slices_Index_int_int.F (x7.take (x21 : Int).toNat) (rd x7 x21)).bind fun t814 => (if t814 ≥ 0 then (some (x6, t814, x21, true)) else (impl_repeat.L1 x0 x6 x7 x20 (wrap64 (x21 + 1))))) else (none)) else (none)) else (none)) else (impl_repeat.L0 x0 (wrap64 (x6 + 1)))) :=
 Lim.step (f := fun k => impl_repeat.l1 (k + 1) x0 x6 x7 x20 x21) (impl_repeat.L1_lim x0 x6 x7 x20 x21) (fun _ => rfl) (by
  simp only [impl_repeat.l1]
  repeat' (first | (with_reducible first | exact Lim.const _ | exact impl_repeat.L0_lim _ _ | exact impl_repeat.L1_lim _ _ _ _ _ | exact slices_Index_int_int.F_lim _ _ | refine Lim.ite ?_ ?_ | refine Lim.bind ?_ (fun _ => ?_))))
theorem impl_repeat.F_eq (l0 : List Int) : impl_repeat.F l0 = (impl_repeat.L0 l0 1) :=
 Lim.unique (impl_repeat.F_lim l0) (by
  unfold impl_repeat.f
  repeat' (first | (with_reducible first | exact Lim.const _ | exact impl_repeat.L0_lim _ _ | refine Lim.ite ?_ ?_ | refine Lim.bind ?_ (fun _ => ?_))))
/-! ### impl_costas: function 116 -/
def impl_costas.f (k : Nat) (l0 : List Int) : Option (Bool) := (impl_repeat.f k l0).bind fun bt815 => (some (!bt815.2.2.2))
theorem impl_costas.mono : ∀ a0 k, LeO (impl_costas.f k a0) (impl_costas.f (k + 1) a0) := by
 intro a0 k
 unfold impl_costas.f
 repeat' (first | (with_reducible first | exact impl_repeat.mono _ _ | exact LeO.refl _ | exact LeO.none _ | refine LeO.ite ?_ ?_ | refine LeO.bind ?_ (fun _ => ?_)) | exact impl_repeat.mono _ _ | exact LeO.none _ | refine LeO.ite ?_ ?_ | refine LeO.bind ?_ (fun _ => ?_))
set_option maxHeartbeats 8000000 in
set_option maxRecDepth 100000 in
theorem impl_costas.calls (k : Nat) (A0 : Option Addr) (c0 : Nat) (l0 : List Int) (r : Bool) (w : World) (hr0 : Kd.C (Kd.int .i64) w A0 l0.length l0) (hc0 : l0.length ≤ c0) (h : impl_costas.f k l0 = some r) :
  Calls Try.prog 116 #[.slice A0 l0.length c0] w fun e w' => e = .returned (.bool r) ∧ Below w.heap.size w w' := by
 have HR0 := Aside0.mk hr0
 have HC0 := Aside0.mk hc0
 clear hr0 hc0
 have HB := Aside0.mk (Below.refl w.heap.size w)
 have H := h
 unfold impl_costas.f at H
 clear h
 replace H := Option.bind_eq_some_iff.mp H
 obtain ⟨⟨t815, t816, t817, t818⟩, A20, H⟩ := H
 replace H : (some (!t818)) = some r := H
 have A2 := Aside0.mk A20
 clear A20
 obtain rfl := Option.some.inj H
 go_enter Try.func116, Try.ntmps116
 go_wp2_with (first | ((with_reducible refine gate_callee (f := 119) rfl ?_); refine goesA (some 9) Try.func119 #[.slice A0 l0.length c0] ?_; (with_reducible refine (impl_repeat.calls k _ _ l0 t815 t816 t817 t818 _ ?side1 ?side2 A2.out).mono ?_); (case side1 => repeat (first | exact HR0.out | (with_reducible refine Kd.C_alloc ?_ _) | (with_reducible refine Kd.C_drewN ?_ _) | (with_reducible refine Kd.C_drew ?_))); (case side2 => exact HC0.out); rintro e w3 ⟨rfl, hb⟩; refine ⟨_, rfl, ?_⟩; replace HB := upB HB hb; (try clear hb); (try clear hb2); (try clear hk); (try clear hi)))
 go_ret
 exact ⟨eqr, atB HB⟩
noncomputable def impl_costas.F (l0 : List Int) : Option (Bool) := lim fun k => impl_costas.f k l0
theorem impl_costas.F_lim (l0 : List Int) : Lim (fun k => impl_costas.f k l0) (impl_costas.F l0) := Lim.of fun k => impl_costas.mono l0 k
theorem impl_costas.F_eq (l0 : List Int) : impl_costas.F l0 = ((impl_repeat.F l0).bind fun bt815 => (some (!bt815.2.2.2))) :=
 Lim.unique (impl_costas.F_lim l0) (by
  unfold impl_costas.f
  repeat' (first | (with_reducible first | exact Lim.const _ | exact impl_repeat.F_lim _ | refine Lim.ite ?_ ?_ | refine Lim.bind ?_ (fun _ => ?_))))
/-! ### slices_Contains_int_int: function 121 -/
def slices_Contains_int_int.f (k : Nat) (l0 : List Int) (a1 : Int) : Option (Bool) := (slices_Index_int_int.f k l0 a1).bind fun t210 => (some (decide (t210 ≥ 0)))
theorem slices_Contains_int_int.mono : ∀ a0 a1 k, LeO (slices_Contains_int_int.f k a0 a1) (slices_Contains_int_int.f (k + 1) a0 a1) := by
 intro a0 a1 k
 unfold slices_Contains_int_int.f
 repeat' (first | (with_reducible first | exact slices_Index_int_int.mono _ _ _ | exact LeO.refl _ | exact LeO.none _ | refine LeO.ite ?_ ?_ | refine LeO.bind ?_ (fun _ => ?_)) | exact slices_Index_int_int.mono _ _ _ | exact LeO.none _ | refine LeO.ite ?_ ?_ | refine LeO.bind ?_ (fun _ => ?_))
set_option maxHeartbeats 8000000 in
set_option maxRecDepth 100000 in
theorem slices_Contains_int_int.calls (k : Nat) (A0 : Option Addr) (c0 : Nat) (l0 : List Int) (a1 : Int) (r : Bool) (w : World) (hr0 : Kd.C (Kd.int .i64) w A0 l0.length l0) (hc0 : l0.length ≤ c0) (h : slices_Contains_int_int.f k l0 a1 = some r) :
  Calls Try.prog 121 #[.slice A0 l0.length c0, .int .i64 a1] w fun e w' => e = .returned (.bool r) ∧ Drawn0 w w' := by
 have HR0 := Aside0.mk hr0
 have HC0 := Aside0.mk hc0
 clear hr0 hc0
 have H := h
 unfold slices_Contains_int_int.f at H
 clear h
 replace H := Option.bind_eq_some_iff.mp H
 obtain ⟨t210, A30, H⟩ := H
 replace H : (some (decide (t210 ≥ 0))) = some r := H
 have A3 := Aside0.mk A30
 clear A30
 obtain rfl := Option.some.inj H
 go_enter Try.func121, Try.ntmps121
 go_wp2_with (first | ((with_reducible refine gate_callee (f := 151) rfl ?_); refine goesA (some 7) Try.func151 #[.slice A0 l0.length c0, .int .i64 a1] ?_; (with_reducible refine (slices_Index_int_int.calls k _ _ l0 a1 t210 _ ?side1 ?side2 A3.out).mono ?_); (case side1 => repeat (first | exact HR0.out | (with_reducible refine Kd.C_alloc ?_ _) | (with_reducible refine Kd.C_drewN ?_ _) | (with_reducible refine Kd.C_drew ?_))); (case side2 => exact HC0.out); rintro e w' ⟨rfl, ⟨nd, rfl⟩⟩; refine ⟨_, rfl, ?_⟩))
 go_ret
 exact ⟨by first | rfl | (simp; done) | (simp [*]; done), by repeat (first | exact Drawn0.refl _ | apply Drawn0.step)⟩
noncomputable def slices_Contains_int_int.F (l0 : List Int) (a1 : Int) : Option (Bool) := lim fun k => slices_Contains_int_int.f k l0 a1
theorem slices_Contains_int_int.F_lim (l0 : List Int) (a1 : Int) : Lim (fun k => slices_Contains_int_int.f k l0 a1) (slices_Contains_int_int.F l0 a1) := Lim.of fun k => slices_Contains_int_int.mono l0 a1 k
theorem slices_Contains_int_int.F_eq (l0 : List Int) (a1 : Int) : slices_Contains_int_int.F l0 a1 = ((slices_Index_int_int.F l0 a1).bind fun t210 => (some (decide (t210 ≥ 0)))) :=
 Lim.unique (slices_Contains_int_int.F_lim l0 a1) (by
  unfold slices_Contains_int_int.f
  repeat' (first | (with_reducible first | exact Lim.const _ | exact slices_Index_int_int.F_lim _ _ | refine Lim.ite ?_ ?_ | refine Lim.bind ?_ (fun _ => ?_))))
/-! ### impl_eachCostas: function 124 (given) -/
/-! ### eachCostas, with whatever function it calls -/
def costasLoop (kk : Nat) {σ : Type} (rec : σ → List Int → Option (σ × Bool)) (p : List Int) : Nat → Nat → σ → Option (σ × Bool)
 | 0, _, s => some (s, false)
 | m + 1, y, s => (slices_Contains_int_int.f kk p (y : Int)).bind fun t => if t = true then costasLoop kk rec p m (y + 1) s else (impl_costas.f kk (p ++ [(y : Int)])).bind fun c => if c = true then ((rec s (p ++ [(y : Int)])).bind fun q => if q.2 = true then some (q.1, true) else costasLoop kk rec p m (y + 1) q.1) else costasLoop kk rec p m (y + 1) s
def costasF (kk : Nat) {σ : Type} (each : σ → List Int → Option (σ × Bool)) (n : Nat) : Nat → σ → List Int → Option (σ × Bool)
 | 0, _, _ => none
 | k + 1, s, p => if p.length = n then each s p else costasLoop kk (costasF kk each n k) p n 0 s
theorem costasLoop_mono (kk : Nat) {σ : Type} {rec rec' : σ → List Int → Option (σ × Bool)} (hr : ∀ s p, LeO (rec s p) (rec' s p)) (p : List Int) : ∀ (m y : Nat) (s : σ), LeO (costasLoop kk rec p m y s) (costasLoop (kk + 1) rec' p m y s)
 | 0, _, _ => LeO.refl _
 | m + 1, y, s => LeO.bind (slices_Contains_int_int.mono _ _ _) (fun _ => LeO.ite (costasLoop_mono kk hr p m (y + 1) s) (LeO.bind (impl_costas.mono _ _) (fun _ => LeO.ite (LeO.bind (hr _ _) (fun q => LeO.ite (LeO.refl _) (costasLoop_mono kk hr p m (y + 1) q.1))) (costasLoop_mono kk hr p m (y + 1) s))))
theorem costasF_mono (kk : Nat) {σ : Type} (each : σ → List Int → Option (σ × Bool)) (n : Nat) : ∀ (k : Nat) (s : σ) (p : List Int), LeO (costasF kk each n k s p) (costasF (kk + 1) each n k s p)
 | 0, _, _ => LeO.refl _
 | k + 1, s, p => LeO.ite (LeO.refl _) (costasLoop_mono kk (costasF_mono kk each n k) p n 0 s)
noncomputable def costasLoopF {σ : Type} (rec : σ → List Int → Option (σ × Bool)) (p : List Int) : Nat → Nat → σ → Option (σ × Bool)
 | 0, _, s => some (s, false)
 | m + 1, y, s => (slices_Contains_int_int.F p (y : Int)).bind fun t => if t = true then costasLoopF rec p m (y + 1) s else (impl_costas.F (p ++ [(y : Int)])).bind fun c => if c = true then ((rec s (p ++ [(y : Int)])).bind fun q => if q.2 = true then some (q.1, true) else costasLoopF rec p m (y + 1) q.1) else costasLoopF rec p m (y + 1) s
noncomputable def costasFF {σ : Type} (each : σ → List Int → Option (σ × Bool)) (n : Nat) : Nat → σ → List Int → Option (σ × Bool)
 | 0, _, _ => none
 | k + 1, s, p => if p.length = n then each s p else costasLoopF (costasFF each n k) p n 0 s
theorem costasLoop_lim {σ : Type} {rec : Nat → σ → List Int → Option (σ × Bool)} {rec' : σ → List Int → Option (σ × Bool)} (hr : ∀ s p, Lim (fun kk => rec kk s p) (rec' s p)) (p : List Int) : ∀ (m y : Nat) (s : σ), Lim (fun kk => costasLoop kk (rec kk) p m y s) (costasLoopF rec' p m y s)
 | 0, _, _ => Lim.const _
 | m + 1, y, s => Lim.bind (slices_Contains_int_int.F_lim p (y : Int)) (fun _ => Lim.ite (costasLoop_lim hr p m (y + 1) s) (Lim.bind (impl_costas.F_lim (p ++ [(y : Int)])) (fun _ => Lim.ite (Lim.bind (hr _ _) (fun q => Lim.ite (Lim.const _) (costasLoop_lim hr p m (y + 1) q.1))) (costasLoop_lim hr p m (y + 1) s))))
theorem costasF_lim {σ : Type} (each : σ → List Int → Option (σ × Bool)) (n : Nat) : ∀ (k : Nat) (s : σ) (p : List Int), Lim (fun kk => costasF kk each n k s p) (costasFF each n k s p)
 | 0, _, _ => Lim.const _
 | k + 1, s, p => Lim.ite (Lim.const _) (costasLoop_lim (costasF_lim each n k) p n 0 s)
set_option maxHeartbeats 16000000 in
set_option maxRecDepth 100000 in
theorem eachCostas_calls (kk : Nat) {σ : Type} {base : Nat} {Y : Nat → Prop} {fid : FuncId} {caps : Array Value} {each : σ → List Int → Option (σ × Bool)} {I : σ → World → Prop} (E : EachR Try.prog 3 base Y fid caps each I) (n : Nat) (hn : n ≤ 1000) :
  ∀ (k : Nat) (s s' : σ) (b : Bool) (p : List Int) (A : Option Addr) (c : Nat) (w0 w : World), p.length ≤ n → I s w0 → base ≤ w0.heap.size → Below w0.heap.size w0 w → Kd.R (Kd.int .i64) 3 w w0.heap.size (fun k => ¬ Y k) (.slice A p.length c) p → costasF kk each n k s p = some (s', b) →
  Calls Try.prog 124 #[.slice A p.length c, .int .i64 n, .func (.func fid) #[] caps] w fun e w' => e = .returned (.bool b) ∧ I s' w' ∧ Below base w w' ∧ KeepI 3 Y w w' := by
 obtain ⟨fn, hf1, hf2, hf3⟩ := E.fn
 have HF1 := Aside0.mk hf1
 have HF2 := Aside0.mk hf2
 have HF3 := Aside0.mk hf3
 have HN := Aside0.mk hn
 clear hf1 hf2 hf3 hn
 intro k
 induction k with
 | zero =>
  intro s s' b p A c w0 w _ _ _ _ _ h
  cases h
 | succ k ih =>
  intro s s' b p A c w0 w hpn hI hb0 hB0 hR h
  have IH := Aside0.mk ih
  have HPN := Aside0.mk hpn
  have HI := Aside0.mk hI
  have HBASE := Aside0.mk hb0
  have HB0 := Aside0.mk hB0
  have HR := Aside0.mk hR
  by_cases hlen : p.length = n
  ·have H := Aside0.mk (show each s p = some (s', b) by rw [← h]; exact (if_pos hlen).symm)
   have b1 : ((p.length : Int) == (n : Int)) = true := beq_iff_eq.mpr (by omega)
   clear ih hpn hI hb0 hB0 hR h hlen
   go_enter Try.func124, Try.ntmps124
   go_wp2_with (first | ((with_reducible refine gate_fval (p := 13) rfl ?_); refine goesF_ (some 15) rfl rfl HF1.out HF2.out HF3.out #[.slice A p.length c] rfl (by first | rfl | (simp [Act.eval]; done) | (simp [Act.eval]; rfl)) (by (try simp only [List.map_toArray, List.map_cons, List.map_nil]); first | done | rfl) ?_; refine (E.call s p A c w0 _ s' b HI.out HBASE.out HB0.out HR.out (by have := HPN.out; have := HN.out; omega) H.out).mono ?_; rintro e w1 ⟨rfl, hI1, hB1, hK1⟩; refine ⟨_, rfl, ?_⟩; have HI1 := Aside0.mk hI1; have HB1 := Aside0.mk hB1; have HK1 := Aside0.mk hK1; clear hI1 hB1 hK1))
   go_ret
   exact ⟨rfl, HI1.out, HB1.out, HK1.out⟩
  ·have H := Aside0.mk (show costasLoop kk (costasF kk each n k) p n 0 s = some (s', b) by rw [← h]; exact (if_neg hlen).symm)
   have b1 : ((p.length : Int) == (n : Int)) = false := beq_eq_false_iff_ne.mpr (by omega)
   have HLT := Aside0.mk (show p.length < n by omega)
   clear ih hpn hI hb0 hB0 hR h hlen
   go_enter Try.func124, Try.ntmps124
   go_wp2
   go_loopw [17] (fun v wr => ∃ (y : Nat) (s1 : σ), y ≤ n ∧ v = .int .i64 y ∧ Aside0 (I s1 wr) ∧ Aside0 (Below base w wr) ∧ Aside0 (KeepI 3 Y w wr) ∧ Aside0 (costasLoop kk (costasF kk each n k) p (n - y) y s1 = some (s', b))) (fun v _ => n - (intOf v).toNat)
   case atStart => exact ⟨0, s, Nat.zero_le _, rfl, ⟨E.stable _ _ _ HI.out HB0.out⟩, ⟨Below.refl _ _⟩, ⟨KeepI.refl _ _ _⟩, ⟨by rw [Nat.sub_zero]; exact H.out⟩⟩
   case round =>
    obtain ⟨y, s1, hy, rfl, HI1, HB1, HK1, H1⟩ := hrel
    by_cases hlt : y < n
    ·have h1 := H1.out
     rw [show n - y = (n - (y + 1)) + 1 by omega] at h1
     obtain ⟨t, ht, h1⟩ := Option.bind_eq_some_iff.1 h1
     have HKT := Aside0.mk ht
     have HRP := Aside0.mk (HK1.out.R rfl HR.out)
     have HY := Aside0.mk hlt
     have HN1 := HN.out
     have c1 : decide ((y : Int) < (n : Int)) = true := decide_eq_true (by omega)
     clear H1 ht hy
     cases t with
     | true =>
      have HREST := Aside0.mk (show costasLoop kk (costasF kk each n k) p (n - (y + 1)) (y + 1) s1 = some (s', b) from h1)
      clear h1
      go_wp2_with (first | ((with_reducible refine gate_callee (f := 121) rfl ?_); refine goesA (some 22) Try.func121 #[.slice A p.length c, .int .i64 y] ?_; refine (slices_Contains_int_int.calls kk A c p y true _ (Kd.R_reads' HRP.out).2.2 (Kd.R_reads' HRP.out).2.1 HKT.out).mono ?_; rintro e w2 ⟨rfl, ⟨nd, rfl⟩⟩; refine ⟨_, rfl, ?_⟩))
      go_roundw
      case rel => exact ⟨y + 1, s1, HY.out, by go_num, ⟨E.stable _ _ _ HI1.out (pw_below_drewN (Below.refl _ _) _)⟩, ⟨HB1.out.trans (pw_below_drewN (Below.refl _ _) _)⟩, ⟨HK1.out.trans (KeepI.of_below (pw_below_drewN (Below.refl _ _) _))⟩, HREST⟩
      case measure => simp [intOf]; have := HY.out; omega
     | false =>
      obtain ⟨cc, hc, h1⟩ := Option.bind_eq_some_iff.1 (show (impl_costas.f kk (p ++ [(y : Int)])).bind _ = some (s', b) from h1)
      have HCL := Aside0.mk (show slices_Clone_int_int.f p = some p from if_pos (by have := HLT.out; omega))
      obtain ⟨nx, hnx⟩ : ∃ nx, p ++ [(y : Int)] = nx := ⟨_, rfl⟩
      have HLA := Aside0.mk (show nx.length = p.length + 1 by rw [← hnx]; simp)
      rw [hnx] at h1 hc
      have HKC := Aside0.mk hc
      have HNX := Aside0.mk hnx
      clear hc hnx
      cases cc with
      | false =>
       have HREST := Aside0.mk (show costasLoop kk (costasF kk each n k) p (n - (y + 1)) (y + 1) s1 = some (s', b) from h1)
       clear h1
       go_wp2_with (first | ((with_reducible refine gate_callee (f := 121) rfl ?_); refine goesA (some 22) Try.func121 #[.slice A p.length c, .int .i64 y] ?_; refine (slices_Contains_int_int.calls kk A c p y false _ (Kd.R_reads' HRP.out).2.2 (Kd.R_reads' HRP.out).2.1 HKT.out).mono ?_; rintro e w2 ⟨rfl, ⟨nd, rfl⟩⟩; refine ⟨_, rfl, ?_⟩) | ((with_reducible refine gate_callee (f := 101) rfl ?_); refine goesA (some 24) Try.func101 #[.slice A p.length c] ?_; refine (slices_Clone_int_int.calls A c p p _ (Kd.R_reads' (Kd.R_drewN HRP.out nd)).2.2 (Kd.R_reads' HRP.out).2.1 HCL.out).mono ?_; rintro e w4 ⟨v4, rfl, hv4, hb4⟩; refine ⟨_, rfl, ?_⟩; obtain ⟨A4, c4, e4⟩ := Kd.R_slice hv4; subst e4; have HV4 := Aside0.mk (Kd.R_mono hv4 (fun k _ => trivial)); have HB4 := Aside0.mk (below_step (pw_below_drewN (Below.refl _ _) nd) hb4); clear hv4 hb4) | ((with_reducible refine gate_builtin (b := .append) (xs := #[.tmp 24, .tmp 26]) rfl ?_); at_builtin; refine Kd.R_append (Kd.int .i64) (w0 := wr) wr.heap.size rfl (.tmp 24) (.tmp 26) 24 3 (.int .i64 0) 8 rfl Try.underlying24 info3 rfl (by decide) (by omega) (.slice A4 p.length c4) p (y : Int) [.int .i64 (y : Int)] (fun _ => True) (fun _ => False) rfl rfl ?aP (fun _ hk => hk.elim) ?aF ?aO ?aB ?aS ?aL ?_; (case aP => exact rfl); (case aF => exact (fun _ _ => trivial)); (case aO => exact HV4.out); (case aB => exact HB4.out); (case aS => exact HB4.out.size); (case aL => have := HLT.out; have := HN.out; omega); intro v5 w5 ho5 hb5 hg5 hat5; rw [HNX.out] at ho5; have HB5 := Aside0.mk hb5; obtain ⟨A5, c5, e5⟩ := Kd.R_slice ho5; subst e5; have HV5 := Aside0.mk (show Kd.R (Kd.int .i64) 3 w5 wr.heap.size (fun k => ¬ Y k) (.slice A5 nx.length c5) nx from Kd.R_mono (Kd.R_bound ho5) (fun k hk => E.fresh _ _ k HI1.out hk.2.1)); have HBW := Aside0.mk (Nat.le_trans HBASE.out (Nat.le_trans HB0.out.size (HB1.out.size))); clear ho5 hb5 hg5 hat5) | ((with_reducible refine gate_callee (f := 116) rfl ?_); refine goesA (some 29) Try.func116 #[.slice A5 nx.length c5] ?_; refine (impl_costas.calls kk A5 c5 nx false w5 (Kd.R_reads' HV5.out).2.2 (Kd.R_reads' HV5.out).2.1 HKC.out).mono ?_; rintro e w6 ⟨rfl, hb6⟩; refine ⟨_, rfl, ?_⟩; have HB6 := Aside0.mk hb6; clear hb6))
       go_roundw
       case rel => exact ⟨y + 1, s1, HY.out, by go_num, ⟨E.stable _ _ _ HI1.out (HB5.out.trans (HB6.out.mono HB5.out.size))⟩, ⟨HB1.out.trans ((HB5.out.trans (HB6.out.mono HB5.out.size)).mono HBW.out)⟩, ⟨HK1.out.trans (KeepI.of_below (HB5.out.trans (HB6.out.mono HB5.out.size)))⟩, HREST⟩
       case measure => simp [intOf]; have := HY.out; omega
      | true =>
       obtain ⟨⟨s2, b2⟩, hq, h1⟩ := Option.bind_eq_some_iff.1 (show (costasF kk each n k s1 nx).bind _ = some (s', b) from h1)
       have HQ := Aside0.mk hq
       clear hq
       cases b2 with
       | true =>
        obtain ⟨rfl, rfl⟩ := Prod.mk.inj (Option.some.inj (show some (s2, true) = some (s', b) from h1))
        clear h1
        go_wp2_with (first | ((with_reducible refine gate_callee (f := 121) rfl ?_); refine goesA (some 22) Try.func121 #[.slice A p.length c, .int .i64 y] ?_; refine (slices_Contains_int_int.calls kk A c p y false _ (Kd.R_reads' HRP.out).2.2 (Kd.R_reads' HRP.out).2.1 HKT.out).mono ?_; rintro e w2 ⟨rfl, ⟨nd, rfl⟩⟩; refine ⟨_, rfl, ?_⟩) | ((with_reducible refine gate_callee (f := 101) rfl ?_); refine goesA (some 24) Try.func101 #[.slice A p.length c] ?_; refine (slices_Clone_int_int.calls A c p p _ (Kd.R_reads' (Kd.R_drewN HRP.out nd)).2.2 (Kd.R_reads' HRP.out).2.1 HCL.out).mono ?_; rintro e w4 ⟨v4, rfl, hv4, hb4⟩; refine ⟨_, rfl, ?_⟩; obtain ⟨A4, c4, e4⟩ := Kd.R_slice hv4; subst e4; have HV4 := Aside0.mk (Kd.R_mono hv4 (fun k _ => trivial)); have HB4 := Aside0.mk (below_step (pw_below_drewN (Below.refl _ _) nd) hb4); clear hv4 hb4) | ((with_reducible refine gate_builtin (b := .append) (xs := #[.tmp 24, .tmp 26]) rfl ?_); at_builtin; refine Kd.R_append (Kd.int .i64) (w0 := wr) wr.heap.size rfl (.tmp 24) (.tmp 26) 24 3 (.int .i64 0) 8 rfl Try.underlying24 info3 rfl (by decide) (by omega) (.slice A4 p.length c4) p (y : Int) [.int .i64 (y : Int)] (fun _ => True) (fun _ => False) rfl rfl ?aP (fun _ hk => hk.elim) ?aF ?aO ?aB ?aS ?aL ?_; (case aP => exact rfl); (case aF => exact (fun _ _ => trivial)); (case aO => exact HV4.out); (case aB => exact HB4.out); (case aS => exact HB4.out.size); (case aL => have := HLT.out; have := HN.out; omega); intro v5 w5 ho5 hb5 hg5 hat5; rw [HNX.out] at ho5; have HB5 := Aside0.mk hb5; obtain ⟨A5, c5, e5⟩ := Kd.R_slice ho5; subst e5; have HV5 := Aside0.mk (show Kd.R (Kd.int .i64) 3 w5 wr.heap.size (fun k => ¬ Y k) (.slice A5 nx.length c5) nx from Kd.R_mono (Kd.R_bound ho5) (fun k hk => E.fresh _ _ k HI1.out hk.2.1)); have HBW := Aside0.mk (Nat.le_trans HBASE.out (Nat.le_trans HB0.out.size (HB1.out.size))); clear ho5 hb5 hg5 hat5) | ((with_reducible refine gate_callee (f := 116) rfl ?_); refine goesA (some 29) Try.func116 #[.slice A5 nx.length c5] ?_; refine (impl_costas.calls kk A5 c5 nx true w5 (Kd.R_reads' HV5.out).2.2 (Kd.R_reads' HV5.out).2.1 HKC.out).mono ?_; rintro e w6 ⟨rfl, hb6⟩; refine ⟨_, rfl, ?_⟩; have HB6 := Aside0.mk hb6; have HV6 := Aside0.mk (Kd.R_below HV5.out hb6); clear hb6) | (go_at_call 124; refine (IH.out s1 s2 true nx A5 c5 wr w6 (by have := HLA.out; have := HLT.out; omega) HI1.out HBW.out (HB5.out.trans (HB6.out.mono HB5.out.size)) HV6.out HQ.out).mono ?_; rintro e w7 ⟨rfl, hI7, hB7, hK7⟩; have HI7 := Aside0.mk hI7; have HB7 := Aside0.mk hB7; have HK7 := Aside0.mk hK7; clear hI7 hB7 hK7))
        try go_wp2
        go_ret
        exact ⟨rfl, HI7.out, HB1.out.trans (((HB5.out.trans (HB6.out.mono HB5.out.size)).mono HBW.out).trans HB7.out), HK1.out.trans ((KeepI.of_below (HB5.out.trans (HB6.out.mono HB5.out.size))).trans HK7.out)⟩
       | false =>
        have HREST := Aside0.mk (show costasLoop kk (costasF kk each n k) p (n - (y + 1)) (y + 1) s2 = some (s', b) from h1)
        clear h1
        go_wp2_with (first | ((with_reducible refine gate_callee (f := 121) rfl ?_); refine goesA (some 22) Try.func121 #[.slice A p.length c, .int .i64 y] ?_; refine (slices_Contains_int_int.calls kk A c p y false _ (Kd.R_reads' HRP.out).2.2 (Kd.R_reads' HRP.out).2.1 HKT.out).mono ?_; rintro e w2 ⟨rfl, ⟨nd, rfl⟩⟩; refine ⟨_, rfl, ?_⟩) | ((with_reducible refine gate_callee (f := 101) rfl ?_); refine goesA (some 24) Try.func101 #[.slice A p.length c] ?_; refine (slices_Clone_int_int.calls A c p p _ (Kd.R_reads' (Kd.R_drewN HRP.out nd)).2.2 (Kd.R_reads' HRP.out).2.1 HCL.out).mono ?_; rintro e w4 ⟨v4, rfl, hv4, hb4⟩; refine ⟨_, rfl, ?_⟩; obtain ⟨A4, c4, e4⟩ := Kd.R_slice hv4; subst e4; have HV4 := Aside0.mk (Kd.R_mono hv4 (fun k _ => trivial)); have HB4 := Aside0.mk (below_step (pw_below_drewN (Below.refl _ _) nd) hb4); clear hv4 hb4) | ((with_reducible refine gate_builtin (b := .append) (xs := #[.tmp 24, .tmp 26]) rfl ?_); at_builtin; refine Kd.R_append (Kd.int .i64) (w0 := wr) wr.heap.size rfl (.tmp 24) (.tmp 26) 24 3 (.int .i64 0) 8 rfl Try.underlying24 info3 rfl (by decide) (by omega) (.slice A4 p.length c4) p (y : Int) [.int .i64 (y : Int)] (fun _ => True) (fun _ => False) rfl rfl ?aP (fun _ hk => hk.elim) ?aF ?aO ?aB ?aS ?aL ?_; (case aP => exact rfl); (case aF => exact (fun _ _ => trivial)); (case aO => exact HV4.out); (case aB => exact HB4.out); (case aS => exact HB4.out.size); (case aL => have := HLT.out; have := HN.out; omega); intro v5 w5 ho5 hb5 hg5 hat5; rw [HNX.out] at ho5; have HB5 := Aside0.mk hb5; obtain ⟨A5, c5, e5⟩ := Kd.R_slice ho5; subst e5; have HV5 := Aside0.mk (show Kd.R (Kd.int .i64) 3 w5 wr.heap.size (fun k => ¬ Y k) (.slice A5 nx.length c5) nx from Kd.R_mono (Kd.R_bound ho5) (fun k hk => E.fresh _ _ k HI1.out hk.2.1)); have HBW := Aside0.mk (Nat.le_trans HBASE.out (Nat.le_trans HB0.out.size (HB1.out.size))); clear ho5 hb5 hg5 hat5) | ((with_reducible refine gate_callee (f := 116) rfl ?_); refine goesA (some 29) Try.func116 #[.slice A5 nx.length c5] ?_; refine (impl_costas.calls kk A5 c5 nx true w5 (Kd.R_reads' HV5.out).2.2 (Kd.R_reads' HV5.out).2.1 HKC.out).mono ?_; rintro e w6 ⟨rfl, hb6⟩; refine ⟨_, rfl, ?_⟩; have HB6 := Aside0.mk hb6; have HV6 := Aside0.mk (Kd.R_below HV5.out hb6); clear hb6) | (go_at_call 124; refine (IH.out s1 s2 false nx A5 c5 wr w6 (by have := HLA.out; have := HLT.out; omega) HI1.out HBW.out (HB5.out.trans (HB6.out.mono HB5.out.size)) HV6.out HQ.out).mono ?_; rintro e w7 ⟨rfl, hI7, hB7, hK7⟩; have HI7 := Aside0.mk hI7; have HB7 := Aside0.mk hB7; have HK7 := Aside0.mk hK7; clear hI7 hB7 hK7))
        try go_wp2
        go_roundw
        case rel => exact ⟨y + 1, s2, HY.out, by go_num, HI7, ⟨HB1.out.trans (((HB5.out.trans (HB6.out.mono HB5.out.size)).mono HBW.out).trans HB7.out)⟩, ⟨HK1.out.trans ((KeepI.of_below (HB5.out.trans (HB6.out.mono HB5.out.size))).trans HK7.out)⟩, HREST⟩
        case measure => simp [intOf]; have := HY.out; omega
    ·obtain rfl : y = n := by omega
     have h1 := H1.out
     rw [Nat.sub_self] at h1
     obtain ⟨rfl, rfl⟩ := Prod.mk.inj (Option.some.inj (show some (s1, false) = some (s', b) from h1))
     clear h1 H1 hlt hy
     go_wp2
     go_ret
     exact ⟨rfl, HI1.out, HB1.out, HK1.out⟩
/-! ### impl_AllCostas: function 64 (given) -/
/-- Each row is kept. -/
def eachKept (xs : List (List Int)) (row : List Int) : Option (List (List Int) × Bool) := if xs.length < 5864062014805 then some (xs ++ [row], false) else none
def impl_AllCostas.f (k : Nat) (a0 : Int) : Option (List (List Int) × Bool) :=
 if a0 < 1 ∨ 7 < a0 then some ([], false) else (costasF k eachKept a0.toNat (a0.toNat + 1) [] []).bind fun q => some (q.1, true)
theorem impl_AllCostas.mono : ∀ a0 k, LeO (impl_AllCostas.f k a0) (impl_AllCostas.f (k + 1) a0) := fun a0 k => LeO.ite (LeO.refl _) (LeO.bind (costasF_mono _ _ _ _ _ _) (fun _ => LeO.refl _))
noncomputable def impl_AllCostas.F (a0 : Int) : Option (List (List Int) × Bool) :=
 if a0 < 1 ∨ 7 < a0 then some ([], false) else (costasFF eachKept a0.toNat (a0.toNat + 1) [] []).bind fun q => some (q.1, true)
theorem impl_AllCostas.F_lim {a0 : Int} : Lim (fun k => impl_AllCostas.f k a0) (impl_AllCostas.F a0) := Lim.ite (Lim.const _) (Lim.bind (costasF_lim _ _ _ _ _) (fun _ => Lim.const _))
/-- The rows that were found lie in the variable at bo. -/
structure KeptI (base bo : Nat) (xs : List (List Int)) (w : World) : Prop where
 out : ∃ v, w.heap[bo]? = some (.cells #[v] 33 (0, 0)) ∧ Kd.S (Kd.slice 3 (Kd.int .i64)) 24 w base (fun _ => True) v xs
 bo : base ≤ bo
set_option maxHeartbeats 8000000 in
set_option maxRecDepth 100000 in
theorem AllCostas1_call {base bo : Nat} (xs : List (List Int)) (row : List Int) (A : Option Addr) (c : Nat) (w0 w : World) (hI0 : KeptI base bo xs w0) (hb0 : base ≤ w0.heap.size) (hB0 : Below w0.heap.size w0 w) (hR : Kd.R (Kd.int .i64) 3 w w0.heap.size (fun k => ¬ False) (.slice A row.length c) row) (hx : xs.length < 5864062014805) :
  Calls Try.prog 125 #[.slice A row.length c, .pointer (some ⟨bo, 0, none⟩)] w fun e w' => e = .returned (.bool false) ∧ KeptI base bo (xs ++ [row]) w' ∧ Below base w w' ∧ KeepI 3 (fun _ => False) w w' := by
 obtain ⟨⟨v, h1, h2⟩, h4⟩ := hI0
 have HO := Aside0.mk (blk_below h1 hB0)
 have HS := Aside0.mk (show Kd.S (Kd.slice 3 (Kd.int .i64)) 24 w base (fun k => k < w0.heap.size) v xs from Kd.S_below (Kd.S_mono (Kd.S_bound h2) (fun k hk => hk.2.2.1)) hB0)
 have H4 := Aside0.mk h4
 have HB := Aside0.mk hb0
 have HBS := Aside0.mk hB0.size
 have HR := Aside0.mk hR
 have HX := Aside0.mk hx
 have hc2 := cell_of_one HO.out
 have hf2 := free_of_one HO.out
 obtain ⟨A3, c3, e3⟩ := Kd.S_slice h2
 subst e3
 clear h1 h2 h4 hb0 hB0 hR hx
 go_enter Try.func125, Try.ntmps125
 go_wp2_with (first | ((with_reducible refine gate_builtin (b := .append) (xs := #[.tmp 4, .tmp 6]) rfl ?_); at_builtin; refine Kd.S_append (Kd.slice 3 (Kd.int .i64)) (w0 := w) base rfl (.tmp 4) (.tmp 6) 33 24 (.slice none 0 0) 24 rfl Try.underlying33 info24 rfl (by decide) (by omega) (.slice A3 xs.length c3) xs row [.slice A row.length c] (fun _ => True) (fun k_ => some k_ = (.slice A row.length c : Value).ownBlock) rfl rfl ?aP ?aK ?aF ?aO ?aB ?aS ?aL ?_; (case aP => exact Kd.M_row (Kd.R_mono (Kd.R_tight rfl (Kd.R_lower HR.out HB.out)) (fun _ h_ => h_))); (case aK => exact fun k hk => ⟨trivial, fun e => by have h1 := Kd.R_base HR.out k hk.symm; have h2 := (Kd.S_R HS.out).1 k e.symm; omega⟩); (case aF => exact fun _ _ => trivial); (case aO => exact Kd.S_mono HS.out (fun k hk => ⟨trivial, fun e => by have h1 := Kd.R_base HR.out k e.symm; omega⟩)); (case aB => exact Below.refl _ _); (case aS => exact Nat.le_trans HB.out HBS.out); (case aL => have := HX.out; omega); intro v1 w3 hS3 hB3 hg3 hat3; have HO3 := Aside0.mk (blk_grown HO.out hg3 (Kd.S_ne HS.out HO.out (by decide))); have HK3 := Aside0.mk (show KeepI 3 (fun _ => False) w w3 from fun k cells _ hc => (hg3.block k (lt_of_cells hc) (fun e => by obtain ⟨cells', hc'⟩ := Kd.S_typed HS.out k e.symm; rw [hc] at hc'; simp at hc')).trans hc); have HB3 := Aside0.mk hB3; have HS3 := Aside0.mk hS3; clear hB3 hg3 hat3 hc2 hf2; have hc3 := cell_of_one HO3.out; have hf3 := free_of_one HO3.out; obtain ⟨A4, c4, e4⟩ := Kd.S_slice hS3; subst e4; clear hS3))
 go_ret
 refine ⟨rfl, ⟨⟨_, one_setCell HO3.out, ?_⟩, H4.out⟩, HB3.out.setCell (show base ≤ (⟨bo, 0, none⟩ : Addr).block from H4.out) _, fun k cells hk hc => ?_⟩
 ·have h_ := Kd.S_set HS3.out HO3.out (by decide) 0 (.slice A4 (xs ++ [row]).length c4)
  rw [show (xs ++ [row]).length = xs.length + 1 by simp] at h_
  exact h_
 ·have h1 := HK3.out k cells hk hc
  refine (Below.heap_setCell w3 _ _ k (fun e => ?_)).trans h1
  have h2 := HO3.out
  rw [show k = bo from e] at h1
  rw [h1] at h2
  simp at h2
theorem AllCostas1_ok {base bo : Nat} : EachR Try.prog 3 base (fun _ => False) 125 #[.pointer (some ⟨bo, 0, none⟩)] eachKept (KeptI base bo) := by
 refine ⟨⟨_, Try.func125, by kernel_rfl, rfl⟩, fun s w w' h hb => ?_, fun _ _ _ _ _ => id, fun s row A c w0 w s' b hI hb0 hB0 hR hl h => ?_⟩
 ·obtain ⟨⟨v, h1, h2⟩, h4⟩ := h
  exact ⟨⟨v, blk_below h1 hb, Kd.S_below h2 hb⟩, h4⟩
 ·unfold eachKept at h
  split at h
  ·rename_i hx
   obtain ⟨rfl, rfl⟩ := Prod.mk.inj (Option.some.inj h)
   exact AllCostas1_call s row A c w0 w hI hb0 hB0 hR hx
  ·cases h
set_option maxHeartbeats 8000000 in
set_option maxRecDepth 100000 in
theorem impl_AllCostas.calls (k : Nat) (a0 : Int) (r1 : List (List Int)) (r2 : Bool) (w : World) (h : impl_AllCostas.f k a0 = some (r1, r2)) :
  Calls Try.prog 64 #[.int .i64 a0] w fun e w' => ∃ v0_ : Value, e = .returned (.tuple #[v0_, .bool r2]) ∧ Kd.S (Kd.slice 3 (Kd.int .i64)) 24 w' w.heap.size (fun _ => True) v0_ r1 ∧ Below w.heap.size w w' := by
 unfold impl_AllCostas.f at h
 by_cases h1 : a0 < 1
 ·rw [if_pos (.inl h1)] at h
  obtain ⟨rfl, rfl⟩ := Prod.mk.inj (Option.some.inj h)
  have b1 : decide (a0 < 1) = true := decide_eq_true h1
  clear h h1
  go_enter Try.func64, Try.ntmps64
  go_wp2
  go_ret2
  exact ⟨_, rfl, Kd.S_nil _ _ _ _ _, Below.refl _ _⟩
 ·have b1 : decide (a0 < 1) = false := decide_eq_false h1
  by_cases h2 : 7 < a0
  ·rw [if_pos (.inr h2)] at h
   obtain ⟨rfl, rfl⟩ := Prod.mk.inj (Option.some.inj h)
   have b2 : decide (7 < a0) = true := decide_eq_true h2
   clear h h1 h2
   go_enter Try.func64, Try.ntmps64
   go_wp2
   go_ret2
   exact ⟨_, rfl, Kd.S_nil _ _ _ _ _, Below.refl _ _⟩
  ·have b2 : decide (7 < a0) = false := decide_eq_false h2
   rw [if_neg (by omega)] at h
   obtain ⟨⟨xs, b⟩, hrun, h⟩ := Option.bind_eq_some_iff.1 h
   obtain ⟨rfl, rfl⟩ := Prod.mk.inj (Option.some.inj h)
   obtain ⟨n, rfl⟩ : ∃ n : Nat, a0 = n := ⟨a0.toNat, by omega⟩
   rw [Int.toNat_natCast] at hrun
   have HRUN := Aside0.mk hrun
   have HN := Aside0.mk (show n ≤ 7 by omega)
   clear h h1 h2 hrun
   go_enter Try.func64, Try.ntmps64
   go_wp2_with (first | ((with_reducible refine gate_dst (N := 4) rfl ?_); refine box_event ?hg (N := 4) ?hd (cs := #[.slice none 0 0]) (t := 33) ?hr ?_; (case hd => rfl); (case hg => rfl); (case hr => first | (go_simp; done) | (go_simp; rfl)); intro g4 hg w1 hbox hb; have BK := Aside0.mk hbox; have HB := Aside0.mk (show Below w.heap.size w w1 from hb); have G4 := Aside0.mk (show w.heap.size ≤ g4 by omega); have HI1 := Aside0.mk (show KeptI w.heap.size g4 [] w1 from ⟨⟨_, hbox, Kd.S_nil _ _ _ _ _⟩, by omega⟩); clear hb hbox hg) | ((with_reducible refine gate_callee (f := 124) rfl ?_); refine goesA (some 13) Try.func124 #[.slice none 0 0, .int .i64 n, .func (.func 125) #[] #[.pointer (some ⟨g4, 0, none⟩)]] ?_; refine (eachCostas_calls k (AllCostas1_ok (base := w.heap.size) (bo := g4)) n (by have := HN.out; omega) (n + 1) [] xs b [] none 0 w1 w1 (Nat.zero_le _) HI1.out HB.out.size (Below.refl _ _) (Kd.R_nil _ _ _ _ _) HRUN.out).mono ?_; rintro e w3 ⟨rfl, hI3, hB3, hK3⟩; refine ⟨_, rfl, ?_⟩; obtain ⟨v3, ho3, hs3⟩ := hI3.out; obtain ⟨A3, c3, e3⟩ := Kd.S_slice hs3; subst e3; have HS3 := Aside0.mk hs3; have HB3 := Aside0.mk hB3; have hc3 := cell_of_one ho3; clear hI3 hB3 hK3 ho3 hs3))
   go_ret2
   exact ⟨_, rfl, HS3.out, HB.out.trans HB3.out⟩
/-! ### impl_FirstCostas: function 71 (given) -/
/-- The first row is kept. -/
def eachOnce (_xs : List Int) (row : List Int) : Option (List Int × Bool) := some (row, true)
def impl_FirstCostas.f (k : Nat) (a0 : Int) : Option (List Int × Bool) :=
 if a0 < 1 ∨ 9 < a0 then some ([], false) else (costasF k eachOnce a0.toNat (a0.toNat + 1) [] []).bind fun q => some (q.1, decide ((0 : Int) < (q.1.length : Int)))
theorem impl_FirstCostas.mono : ∀ a0 k, LeO (impl_FirstCostas.f k a0) (impl_FirstCostas.f (k + 1) a0) := fun a0 k => LeO.ite (LeO.refl _) (LeO.bind (costasF_mono _ _ _ _ _ _) (fun _ => LeO.refl _))
noncomputable def impl_FirstCostas.F (a0 : Int) : Option (List Int × Bool) :=
 if a0 < 1 ∨ 9 < a0 then some ([], false) else (costasFF eachOnce a0.toNat (a0.toNat + 1) [] []).bind fun q => some (q.1, decide ((0 : Int) < (q.1.length : Int)))
theorem impl_FirstCostas.F_lim {a0 : Int} : Lim (fun k => impl_FirstCostas.f k a0) (impl_FirstCostas.F a0) := Lim.ite (Lim.const _) (Lim.bind (costasF_lim _ _ _ _ _) (fun _ => Lim.const _))
/-- The row that was found lies in the variable at bo. -/
structure OnceI (base bo : Nat) (xs : List Int) (w : World) : Prop where
 out : ∃ v, w.heap[bo]? = some (.cells #[v] 24 (0, 0)) ∧ Kd.R (Kd.int .i64) 3 w base (fun _ => True) v xs
 bo : base ≤ bo
set_option maxHeartbeats 8000000 in
set_option maxRecDepth 100000 in
theorem FirstCostas1_call {base bo : Nat} (xs row : List Int) (A : Option Addr) (c : Nat) (w0 w : World) (hI0 : OnceI base bo xs w0) (hb0 : base ≤ w0.heap.size) (hB0 : Below w0.heap.size w0 w) (hR : Kd.R (Kd.int .i64) 3 w w0.heap.size (fun k => ¬ False) (.slice A row.length c) row) :
  Calls Try.prog 131 #[.slice A row.length c, .pointer (some ⟨bo, 0, none⟩)] w fun e w' => e = .returned (.bool true) ∧ OnceI base bo row w' ∧ Below base w w' ∧ KeepI 3 (fun _ => False) w w' := by
 obtain ⟨⟨v, h1, h2⟩, h4⟩ := hI0
 have HO := Aside0.mk (blk_below h1 hB0)
 have H4 := Aside0.mk h4
 have HB := Aside0.mk hb0
 have HR := Aside0.mk hR
 have hc2 := cell_of_one HO.out
 have hf2 := free_of_one HO.out
 clear h1 h2 h4 hb0 hB0 hR
 go_enter Try.func131, Try.ntmps131
 go_wp2
 go_ret
 refine ⟨rfl, ⟨⟨_, one_setCell HO.out, ?_⟩, H4.out⟩, (Below.refl _ _).setCell (show base ≤ (⟨bo, 0, none⟩ : Addr).block from H4.out) _, fun k cells hk hc => ?_⟩
 ·exact Kd.R_set (Kd.R_mono (Kd.R_lower HR.out HB.out) (fun _ _ => trivial)) HO.out (by decide) 0 _
 ·refine (Below.heap_setCell w _ _ k (fun e => ?_)).trans hc
  have h2 := HO.out
  rw [show k = bo from e] at hc
  rw [hc] at h2
  simp at h2
theorem FirstCostas1_ok {base bo : Nat} : EachR Try.prog 3 base (fun _ => False) 131 #[.pointer (some ⟨bo, 0, none⟩)] eachOnce (OnceI base bo) := by
 refine ⟨⟨_, Try.func131, by kernel_rfl, rfl⟩, fun s w w' h hb => ?_, fun _ _ _ _ _ => id, fun s row A c w0 w s' b hI hb0 hB0 hR hl h => ?_⟩
 ·obtain ⟨⟨v, h1, h2⟩, h4⟩ := h
  exact ⟨⟨v, blk_below h1 hb, Kd.R_below h2 hb⟩, h4⟩
 ·unfold eachOnce at h
  obtain ⟨rfl, rfl⟩ := Prod.mk.inj (Option.some.inj h)
  exact FirstCostas1_call s row A c w0 w hI hb0 hB0 hR
set_option maxHeartbeats 8000000 in
set_option maxRecDepth 100000 in
theorem impl_FirstCostas.calls (k : Nat) (a0 : Int) (r1 : List Int) (r2 : Bool) (w : World) (h : impl_FirstCostas.f k a0 = some (r1, r2)) :
  Calls Try.prog 71 #[.int .i64 a0] w fun e w' => ∃ v0_ : Value, e = .returned (.tuple #[v0_, .bool r2]) ∧ Kd.R (Kd.int .i64) 3 w' w.heap.size (fun _ => True) v0_ r1 ∧ Below w.heap.size w w' := by
 unfold impl_FirstCostas.f at h
 by_cases h1 : a0 < 1
 ·rw [if_pos (.inl h1)] at h
  obtain ⟨rfl, rfl⟩ := Prod.mk.inj (Option.some.inj h)
  have b1 : decide (a0 < 1) = true := decide_eq_true h1
  clear h h1
  go_enter Try.func71, Try.ntmps71
  go_wp2
  go_ret2
  exact ⟨_, rfl, Kd.R_nil _ _ _ _ _, Below.refl _ _⟩
 ·have b1 : decide (a0 < 1) = false := decide_eq_false h1
  by_cases h2 : 9 < a0
  ·rw [if_pos (.inr h2)] at h
   obtain ⟨rfl, rfl⟩ := Prod.mk.inj (Option.some.inj h)
   have b2 : decide (9 < a0) = true := decide_eq_true h2
   clear h h1 h2
   go_enter Try.func71, Try.ntmps71
   go_wp2
   go_ret2
   exact ⟨_, rfl, Kd.R_nil _ _ _ _ _, Below.refl _ _⟩
  ·have b2 : decide (9 < a0) = false := decide_eq_false h2
   rw [if_neg (by omega)] at h
   obtain ⟨⟨xs, b⟩, hrun, h⟩ := Option.bind_eq_some_iff.1 h
   obtain ⟨rfl, rfl⟩ := Prod.mk.inj (Option.some.inj h)
   obtain ⟨n, rfl⟩ : ∃ n : Nat, a0 = n := ⟨a0.toNat, by omega⟩
   rw [Int.toNat_natCast] at hrun
   have HRUN := Aside0.mk hrun
   have HN := Aside0.mk (show n ≤ 9 by omega)
   clear h h1 h2 hrun
   go_enter Try.func71, Try.ntmps71
   go_wp2_with (first | ((with_reducible refine gate_dst (N := 4) rfl ?_); refine box_event ?hg (N := 4) ?hd (cs := #[.slice none 0 0]) (t := 24) ?hr ?_; (case hd => rfl); (case hg => rfl); (case hr => first | (go_simp; done) | (go_simp; rfl)); intro g4 hg w1 hbox hb; have BK := Aside0.mk hbox; have HB := Aside0.mk (show Below w.heap.size w w1 from hb); have G4 := Aside0.mk (show w.heap.size ≤ g4 by omega); have HI1 := Aside0.mk (show OnceI w.heap.size g4 [] w1 from ⟨⟨_, hbox, Kd.R_nil _ _ _ _ _⟩, by omega⟩); clear hb hbox hg) | ((with_reducible refine gate_callee (f := 124) rfl ?_); refine goesA (some 13) Try.func124 #[.slice none 0 0, .int .i64 n, .func (.func 131) #[] #[.pointer (some ⟨g4, 0, none⟩)]] ?_; refine (eachCostas_calls k (FirstCostas1_ok (base := w.heap.size) (bo := g4)) n (by have := HN.out; omega) (n + 1) [] xs b [] none 0 w1 w1 (Nat.zero_le _) HI1.out HB.out.size (Below.refl _ _) (Kd.R_nil _ _ _ _ _) HRUN.out).mono ?_; rintro e w3 ⟨rfl, hI3, hB3, hK3⟩; refine ⟨_, rfl, ?_⟩; obtain ⟨v3, ho3, hs3⟩ := hI3.out; obtain ⟨A3, c3, e3⟩ := Kd.R_slice hs3; subst e3; have HS3 := Aside0.mk hs3; have HB3 := Aside0.mk hB3; have hc3 := cell_of_one ho3; clear hI3 hB3 hK3 ho3 hs3))
   go_quiet (fail)
   go_wp2_with fail
   go_ret2
   exact ⟨_, by first | rfl | simp, Kd.R_mono (Kd.R_drewN HS3.out _) (fun _ _ => trivial), HB.out.trans (HB3.out.trans (pw_below_drewN (Below.refl _ _) _))⟩
/-! ### spec_l1In: function 102 -/
def spec_l1In.f (a0 : Int) (a1 : Int) (a2 : Int) : Option (Bool) := if a0 ≥ a1 then (some (decide (a0 ≤ a2))) else (some false)
set_option maxHeartbeats 8000000 in
set_option maxRecDepth 100000 in
theorem spec_l1In.calls (a0 : Int) (a1 : Int) (a2 : Int) (r : Bool) (w : World) (h : spec_l1In.f a0 a1 a2 = some r) :
  Calls Try.prog 102 #[.int .i64 a0, .int .i64 a1, .int .i64 a2] w fun e w' => e = .returned (.bool r) ∧ Drawn0 w w' := by
 have H := h
 unfold spec_l1In.f at H
 clear h
 by_cases c4 : a0 ≥ a1
 ·rw [if_pos c4] at H
  have c4b0 : decide (a1 ≤ a0) = true := decide_eq_true c4
  clear c4
  obtain rfl := Option.some.inj H
  go_enter Try.func102, Try.ntmps102
  go_wp2
  go_ret
  exact ⟨by first | rfl | (simp; done) | (simp [*]; done), by repeat (first | exact Drawn0.refl _ | apply Drawn0.step)⟩
 ·rw [if_neg c4] at H
  have c4b0 : decide (a1 ≤ a0) = false := decide_eq_false c4
  clear c4
  obtain rfl := Option.some.inj H
  go_enter Try.func102, Try.ntmps102
  go_wp2
  go_ret
  exact ⟨by first | rfl | (simp; done) | (simp [*]; done), by repeat (first | exact Drawn0.refl _ | apply Drawn0.step)⟩
/-! ### spec_doDifferences: function 132 -/
def spec_doDifferences.l0 : Nat → List Int → Int → List Int → Int → Option (List Int)
 | 0, _, _, _, _ => none
 | k + 1, x0, x1, x5, x6 => if x6 < (x0.length : Int) then (if 0 ≤ x6 then (if 0 ≤ (wrap64 (x6 - x1)) then (if (wrap64 (x6 - x1)) < (x0.length : Int) then (if x5.length < 17592186044416 then (spec_doDifferences.l0 k x0 x1 (x5 ++ [wrap64 ((rd x0 x6) - (rd x0 (wrap64 (x6 - x1))))]) (wrap64 (x6 + 1))) else (none)) else (none)) else (none)) else (none)) else (some x5)
def spec_doDifferences.f (k : Nat) (l0 : List Int) (a1 : Int) : Option (List Int) := spec_doDifferences.l0 k l0 a1 ([] : List Int) a1
theorem spec_doDifferences.mono_l : ∀ k, (∀ y0 y1 y2 y3, LeO (spec_doDifferences.l0 k y0 y1 y2 y3) (spec_doDifferences.l0 (k + 1) y0 y1 y2 y3))
 | 0 => fun _ _ _ _ r h => by simp [spec_doDifferences.l0] at h
 | k + 1 => by
  have ih0 := spec_doDifferences.mono_l k
  ·intro y0 y1 y2 y3
   unfold spec_doDifferences.l0
   repeat' (first | (with_reducible first | exact ih0 _ _ _ _ | exact LeO.refl _ | exact LeO.none _ | refine LeO.ite ?_ ?_ | refine LeO.bind ?_ (fun _ => ?_)) | exact ih0 _ _ _ _ | exact LeO.none _ | refine LeO.ite ?_ ?_ | refine LeO.bind ?_ (fun _ => ?_))
theorem spec_doDifferences.mono : ∀ a0 a1 k, LeO (spec_doDifferences.f k a0 a1) (spec_doDifferences.f (k + 1) a0 a1) := by
 intro a0 a1 k
 have ih0 := spec_doDifferences.mono_l k
 unfold spec_doDifferences.f
 repeat' (first | (with_reducible first | exact ih0 _ _ _ _ | exact LeO.refl _ | exact LeO.none _ | refine LeO.ite ?_ ?_ | refine LeO.bind ?_ (fun _ => ?_)) | exact ih0 _ _ _ _ | exact LeO.none _ | refine LeO.ite ?_ ?_ | refine LeO.bind ?_ (fun _ => ?_))
def spec_doDifferences.T5 : Bool × List (List Nat × List Nat) := (true, [([], []), ([], []), ([], []), ([1, 2], [1, 2]), ([3], [3]), ([], []), ([], []), ([], []), ([6, 7], [6, 7]), ([5, 8], [5, 8]), ([9], [9]), ([4, 10], [4, 10]), ([11], [11]), ([0, 12], [0, 12]), ([13, 13, 0, 1, 2, 3, 4, 5, 6, 7, 8, 9, 10, 11, 12, 13], [0, 13])])
def spec_doDifferences.B5 : List Nat := [0, 0, 0, 6, 14, 0, 0, 0, 192, 480, 992, 2046, 4094, 8191, 16383]
theorem spec_doDifferences.tab5 : rtab .any (opsOf Try.f132 5) = spec_doDifferences.T5 := by kernel_rfl
theorem spec_doDifferences.bits5 : waitsOk spec_doDifferences.T5.2 spec_doDifferences.B5 = true := by kernel_rfl
set_option maxHeartbeats 8000000 in
set_option maxRecDepth 100000 in
theorem spec_doDifferences.calls (k : Nat) (A0 : Option Addr) (c0 : Nat) (l0 : List Int) (a1 : Int) (r : List Int) (w : World) (hr0 : Kd.C (Kd.int .i64) w A0 l0.length l0) (hc0 : l0.length ≤ c0) (h : spec_doDifferences.f k l0 a1 = some r) :
  Calls Try.prog 132 #[.slice A0 l0.length c0, .int .i64 a1] w fun e w' => ∃ v0_ : Value, e = .returned (v0_) ∧ Kd.R (Kd.int .i64) 3 w' w.heap.size (fun _ => True) v0_ r ∧ Below w.heap.size w w' := by
 have HR0 := Aside0.mk hr0
 have HC0 := Aside0.mk hc0
 clear hr0 hc0
 have HB := Aside0.mk (Below.refl w.heap.size w)
 have H := h
 unfold spec_doDifferences.f at H
 clear h
 have H' := Aside0.mk H
 clear H
 go_enter Try.func132, Try.ntmps132
 go_wp2
 go_loopg [5, 6] k (fun kq v5 v6 w' => ∃ (x5_1 : List Int) (x6_1 : Int), v6 = .int .i64 x6_1 ∧ Aside0 (spec_doDifferences.l0 kq l0 a1 x5_1 x6_1 = some r) ∧ Aside0 (kq ≤ k) ∧ Aside0 (Kd.R (Kd.int .i64) 3 w' w.heap.size (fun _ => True) v5 x5_1) ∧ Aside0 (Below w.heap.size w w'))
 case atStart => exact ⟨(([] : List Int)), (a1), eqd, H', ⟨Nat.le_refl _⟩, ⟨by first | exact Kd.R_nil _ _ _ _ _ | exact Kd.N_nil _ _ _ _ _ | exact Kd.V_nil _ _ _ _ _ | exact Kd.Q_nil _ _ _ _ _ | exact Kd.S_nil _ _ _ _ _⟩, ⟨atB HB⟩⟩
 case round =>
  clear H'
  try clear c1
  try clear p2
  obtain ⟨x5_1, x6_1, rfl, HA, HK1, HO_5, HB⟩ := hrel
  cases gk with
  | zero => exact absurd HA.out (by simp [spec_doDifferences.l0])
  | succ k1 =>
   have H := HA.out
   clear HA
   simp only [spec_doDifferences.l0] at H
   by_cases c3 : x6_1 < (l0.length : Int)
   ·rw [if_pos c3] at H
    have c3b0 : decide (x6_1 < (l0.length : Int)) = true := decide_eq_true c3
    clear c3
    by_cases c4 : 0 ≤ x6_1
    ·rw [if_pos c4] at H
     have c4b0 : decide (0 ≤ x6_1) = true := decide_eq_true c4
     clear c4
     obtain ⟨ji5, hji5⟩ : ∃ j_ : Int, (wrap64 (x6_1 - a1)) = j_ := ⟨_, rfl⟩
     replace H : (if 0 ≤ (ji5) then (if (ji5) < (l0.length : Int) then (if x5_1.length < 17592186044416 then (spec_doDifferences.l0 k1 l0 a1 (x5_1 ++ [wrap64 ((rd l0 x6_1) - (rd l0 (ji5)))]) (wrap64 (x6_1 + 1))) else (none)) else (none)) else (none)) = some r := by first | (rw [hji5] at H; exact H) | (simp only [hji5] at H ⊢; exact H)
     have hji5w : (IntKind.i64.wrap (x6_1 - a1)) = ji5 := (i64_w _).trans hji5
     by_cases c6 : 0 ≤ (ji5)
     ·rw [if_pos c6] at H
      have c6b0 : decide (0 ≤ (ji5)) = true := decide_eq_true c6
      clear c6
      by_cases c7 : (ji5) < (l0.length : Int)
      ·rw [if_pos c7] at H
       have c7b0 : decide ((ji5) < (l0.length : Int)) = true := decide_eq_true c7
       clear c7
       by_cases c8 : x5_1.length < 17592186044416
       ·rw [if_pos c8] at H
        have LMc8 := Aside0.mk c8
        clear c8
        obtain ⟨y828, hy828⟩ : ∃ y_ : List Int, y_ = (x5_1 ++ [wrap64 ((rd l0 x6_1) - (rd l0 (ji5)))]) := ⟨_, rfl⟩
        replace H : (spec_doDifferences.l0 k1 l0 a1 y828 (wrap64 (x6_1 + 1))) = some r := by first | (rw [hy828]; with_reducible exact H) | (have H2_ := (Option.bind_some _ _).symm.trans H; rw [hy828]; with_reducible exact H2_) | (have H2_ := (Option.bind_some _ _).symm.trans H; with_reducible exact H2_) | with_reducible exact H | (rw [hy828]; exact H) | exact H
        have Ny828 := Aside0.mk hy828
        clear hy828
        have H' := Aside0.mk H
        clear H
        try go_wp2
        have n0_ := Aside0.mk (Kd.R_drew HO_5.out)
        have n1_ := Aside0.mk (below_drew1 HB.out)
        clear HO_5
        clear HB
        have HO_5 := n0_
        have HB := n1_
        clear n0_ n1_
        have p826 : 0 ≤ (x6_1 : Int) := ofd
        have q826 : x6_1 < (l0.length : Int) := ofd
        obtain ⟨ad826, e826, hx826_0⟩ := Kd.at_int HR0.out x6_1 p826 q826
        have hw826_0 := hx826_0
        cases e826
        (try replace hx826_0 := (HB.out.cell (World.block_lt_of_cell? w _ hx826_0)).trans hx826_0)
        replace p826 := eq_true p826
        replace q826 := eq_true q826
        have p827 : 0 ≤ ((ji5) : Int) := ofd
        have q827 : (ji5) < (l0.length : Int) := ofd
        obtain ⟨ad827, e827, hx827_0⟩ := Kd.at_int HR0.out (ji5) p827 q827
        have hw827_0 := hx827_0
        obtain rfl : ad826 = ad827 := (by injection e827)
        (try replace hx827_0 := (HB.out.cell (World.block_lt_of_cell? w _ hx827_0)).trans hx827_0)
        replace p827 := eq_true p827
        replace q827 := eq_true q827
        refine start_ (n := 15) (S := fun w' => w'.cell? (ad826.add (x6_1).toNat) = some (.int .i64 (rd l0 x6_1)) ∧ w'.cell? (ad826.add ((ji5)).toNat) = some (.int .i64 (rd l0 (ji5)))) (ds := []) #[false, false, false, false, false, false, false, false, false, false, false, false, false, false, false] (by kernel_rfl) rfl rfl ⟨((HB.out.cell (World.block_lt_of_cell? w _ hw826_0)).trans hw826_0), ((HB.out.cell (World.block_lt_of_cell? w _ hw827_0)).trans hw827_0)⟩ (fun hHeld => ?_); refine with_tabW spec_doDifferences.tab5 spec_doDifferences.bits5 (fun HT_ HW_ => ?_)
        generalize wr.drew = w9 at HO_5 HB hx826_0 hx827_0 hHeld ⊢
        refine pure_ (i := 0) (N := some 14) (v := ?_) (a' := ?_) #[true, false, false, false, false, false, false, false, false, false, false, false, false, false, false] rfl rfl (any_of HT_.out (by kernel_rfl)) (fun _ _ _ h => h) (Or.inl ⟨by rfl, ?_⟩) ?_ ?_
        rotate_left
        ·intro w'
         go_simp
         with_reducible rfl
        rotate_left
        ·simp only [Act.put, List.setIfInBounds_toArray, List.set_cons_zero, List.set_cons_succ, i64_w, i32_w]
         rfl
        refine pure_ (i := 1) (N := some 15) (v := ?_) (a' := ?_) #[true, true, false, false, false, false, false, false, false, false, false, false, false, false, false] rfl rfl (any_of HT_.out (by kernel_rfl)) (fun _ _ _ h => h) (Or.inl ⟨by rfl, ?_⟩) ?_ ?_
        rotate_left
        ·intro w'
         go_simp
         with_reducible rfl
        rotate_left
        ·simp only [Act.put, List.setIfInBounds_toArray, List.set_cons_zero, List.set_cons_succ, i64_w, i32_w]
         rfl
        refine pure_ (i := 2) (N := some 16) (v := ?_) (a' := ?_) #[true, true, true, false, false, false, false, false, false, false, false, false, false, false, false] rfl rfl (any_of HT_.out (by kernel_rfl)) (fun _ _ _ h => h) (Or.inl ⟨by rfl, ?_⟩) ?_ ?_
        rotate_left
        ·intro w'
         go_simp
         with_reducible rfl
        rotate_left
        ·simp only [Act.put, List.setIfInBounds_toArray, List.set_cons_zero, List.set_cons_succ, i64_w, i32_w]
         rfl
        refine pure_ (i := 3) (N := some 17) (v := ?_) (a' := ?_) #[true, true, true, true, false, false, false, false, false, false, false, false, false, false, false] rfl rfl (any_of HT_.out (by kernel_rfl)) (fun _ _ _ h => h) (Or.inl ⟨by rfl, ?_⟩) ?_ ?_
        rotate_left
        ·intro w'
         go_simp
         with_reducible rfl
        rotate_left
        ·simp only [Act.put, List.setIfInBounds_toArray, List.set_cons_zero, List.set_cons_succ, i64_w, i32_w]
         rfl
        refine pure_ (i := 5) (N := some 19) (v := ?_) (a' := ?_) #[true, true, true, true, false, true, false, false, false, false, false, false, false, false, false] rfl rfl (any_of HT_.out (by kernel_rfl)) (fun _ _ _ h => h) (Or.inl ⟨by rfl, ?_⟩) ?_ ?_
        rotate_left
        ·intro w'
         go_simp
         with_reducible rfl
        rotate_left
        ·simp only [Act.put, List.setIfInBounds_toArray, List.set_cons_zero, List.set_cons_succ, i64_w, i32_w]
         rfl
        refine pure_ (i := 6) (N := some 20) (v := ?_) (a' := ?_) #[true, true, true, true, false, true, true, false, false, false, false, false, false, false, false] rfl rfl (any_of HT_.out (by kernel_rfl)) (fun _ _ _ h => h) (Or.inl ⟨by rfl, ?_⟩) ?_ ?_
        rotate_left
        ·intro w'
         go_simp
         with_reducible rfl
        rotate_left
        ·simp only [Act.put, List.setIfInBounds_toArray, List.set_cons_zero, List.set_cons_succ, i64_w, i32_w]
         rfl
        refine pure_ (i := 7) (N := some 21) (v := ?_) (a' := ?_) #[true, true, true, true, false, true, true, true, false, false, false, false, false, false, false] rfl rfl (any_of HT_.out (by kernel_rfl)) (fun _ _ _ h => h) (Or.inl ⟨by rfl, ?_⟩) ?_ ?_
        rotate_left
        ·intro w'
         go_simp
         with_reducible rfl
        rotate_left
        ·simp only [Act.put, List.setIfInBounds_toArray, List.set_cons_zero, List.set_cons_succ, i64_w, i32_w]
         rfl
        refine pure_ (i := 8) (N := some 22) (v := ?_) (a' := ?_) #[true, true, true, true, false, true, true, true, true, false, false, false, false, false, false] rfl rfl (any_of HT_.out (by kernel_rfl)) (fun _ _ _ h => h) (Or.inl ⟨by rfl, ?_⟩) ?_ ?_
        rotate_left
        ·intro w'
         go_simp
         with_reducible rfl
        rotate_left
        ·simp only [Act.put, List.setIfInBounds_toArray, List.set_cons_zero, List.set_cons_succ, i64_w, i32_w]
         rfl
        refine pure_ (i := 9) (N := some 23) (v := ?_) (a' := ?_) #[true, true, true, true, false, true, true, true, true, true, false, false, false, false, false] rfl rfl (any_of HT_.out (by kernel_rfl)) (fun _ _ _ h => h) (Or.inl ⟨by rfl, ?_⟩) ?_ ?_
        rotate_left
        ·intro w'
         go_simp
         with_reducible rfl
        rotate_left
        ·simp only [Act.put, List.setIfInBounds_toArray, List.set_cons_zero, List.set_cons_succ, i64_w, i32_w]
         rfl
        refine take_ (i := 4) (N := some 18) (v := ?_) (a' := ?_) #[true, true, true, true, true, true, true, true, true, true, false, false, false, false, false] rfl rfl (take_ofW HT_.out HW_.out (by kernel_rfl)) (fun _ _ _ h => h) (Or.inl ⟨by rfl, ?_⟩) hHeld ?_ ?_
        rotate_left
        ·rintro w' ⟨s0, s1⟩
         go_simp
         with_reducible rfl
        rotate_left
        ·simp only [Act.put, List.setIfInBounds_toArray, List.set_cons_zero, List.set_cons_succ, i64_w, i32_w]
         rfl
        refine take_ (i := 10) (N := some 24) (v := ?_) (a' := ?_) #[true, true, true, true, true, true, true, true, true, true, true, false, false, false, false] rfl rfl (take_ofW HT_.out HW_.out (by kernel_rfl)) (fun _ _ _ h => h) (Or.inl ⟨by rfl, ?_⟩) hHeld ?_ ?_
        rotate_left
        ·rintro w' ⟨s0, s1⟩
         go_simp
         with_reducible rfl
        rotate_left
        ·simp only [Act.put, List.setIfInBounds_toArray, List.set_cons_zero, List.set_cons_succ, i64_w, i32_w]
         rfl
        refine pure_ (i := 11) (N := some 25) (v := ?_) (a' := ?_) #[true, true, true, true, true, true, true, true, true, true, true, true, false, false, false] rfl rfl (any_of HT_.out (by kernel_rfl)) (fun _ _ _ h => h) (Or.inl ⟨by rfl, ?_⟩) ?_ ?_
        rotate_left
        ·intro w'
         go_simp
         with_reducible rfl
        rotate_left
        ·simp only [Act.put, List.setIfInBounds_toArray, List.set_cons_zero, List.set_cons_succ, i64_w, i32_w]
         rfl
        refine one_ (i := 12) (N := some 26) #[true, true, true, true, true, true, true, true, true, true, true, true, true, false, false] rfl rfl (one_of HT_.out (by kernel_rfl)) (by decide) (fun K hK => ?_)
        refine value_ (w1 := ?_) (v := ?_) (by rfl) rfl ?_ ?_
        rotate_left 2
        ·go_simp
         constructor
         ·rfl
         ·rfl
        refine hK.out _ _ ⟨(World.cell?_alloc_lt _ _ _ (World.block_lt_of_cell? _ _ (((HB.out.cell (World.block_lt_of_cell? w _ hw826_0)).trans hw826_0)))).trans (((HB.out.cell (World.block_lt_of_cell? w _ hw826_0)).trans hw826_0)), (World.cell?_alloc_lt _ _ _ (World.block_lt_of_cell? _ _ (((HB.out.cell (World.block_lt_of_cell? w _ hw827_0)).trans hw827_0)))).trans (((HB.out.cell (World.block_lt_of_cell? w _ hw827_0)).trans hw827_0))⟩ (fun hHeld => ?_)
        clear hK K
        refine norm_ (a' := ?_) ?_ ?_
        rotate_left
        ·show Act.put _ (some 26) _ = _
         simp only [Act.put, List.setIfInBounds_toArray, List.set_cons_zero, List.set_cons_succ, i64_w, i32_w]
         rfl
        refine one_ (i := 13) (N := some 27) #[true, true, true, true, true, true, true, true, true, true, true, true, true, true, false] rfl rfl (one_of HT_.out (by kernel_rfl)) (by decide) (fun K hK => ?_)
        refine Kd.R_append_step (Kd.int .i64) (w0 := w) w.heap.size (by rfl) (.tmp 14) (.tmp 26) 24 3 (.int .i64 0) 8 rfl Try.underlying24 info3 rfl (by decide) (by omega) u5 x5_1 (wrap64 ((rd l0 x6_1) - (rd l0 (ji5)))) [.int .i64 (wrap64 ((rd l0 x6_1) - (rd l0 (ji5))))] (fun _ => True) (fun _ => False) rfl rfl ?aP (fun _ hk => hk.elim) ?aF ?aO ?aB ?aS ?aL ?_
        (case aP => exact rfl)
        (case aB => exact (atB HB))
        (case aF => exact (fun _ _ => trivial))
        (case aO => exact (atR HO_5))
        (case aS => exact (szB HB))
        (case aL => have := LMc8.out; omega)
        intro v829 w10 ho hb hg hat
        rw [← Ny828.out] at ho
        have n0_ := Aside0.mk (hb)
        have n1_ := Aside0.mk (ho)
        clear HB
        clear HO_5
        have HB := n0_
        have HO830 := n1_
        clear n0_ n1_
        clear ho hb hg hat
        refine hK.out _ _ ⟨((HB.out.cell (World.block_lt_of_cell? w _ hw826_0)).trans hw826_0), ((HB.out.cell (World.block_lt_of_cell? w _ hw827_0)).trans hw827_0)⟩ (fun hHeld => ?_)
        clear hK K
        refine norm_ (a' := ?_) ?_ ?_
        rotate_left
        ·show Act.put _ (some 27) _ = _
         simp only [Act.put, List.setIfInBounds_toArray, List.set_cons_zero, List.set_cons_succ, i64_w, i32_w]
         rfl
        refine pure_ (i := 14) (N := some 5) (v := ?_) (a' := ?_) #[true, true, true, true, true, true, true, true, true, true, true, true, true, true, true] rfl rfl (any_of HT_.out (by kernel_rfl)) (fun _ _ _ h => h) (Or.inl ⟨by rfl, ?_⟩) ?_ ?_
        rotate_left
        ·intro w'
         go_simp
         with_reducible rfl
        rotate_left
        ·simp only [Act.put, List.setIfInBounds_toArray, List.set_cons_zero, List.set_cons_succ, i64_w, i32_w]
         rfl
        refine done_ (done_of HT_.out (by kernel_rfl)) ?_
        try go_wp2
        first | go_roundg k1 | ((try subst hji5); go_roundg k1)
        case measure => have := HK1.out; omega
        case rel => exact ⟨(y828), (wrap64 (x6_1 + 1)), eqd, H', ⟨by have := HK1.out; omega⟩, ⟨atR HO830⟩, ⟨atB HB⟩⟩
       ·rw [if_neg c8] at H
        exact absurd H (by simp)
      ·rw [if_neg c7] at H
       exact absurd H (by simp)
     ·rw [if_neg c6] at H
      exact absurd H (by simp)
    ·rw [if_neg c4] at H
     exact absurd H (by simp)
   ·rw [if_neg c3] at H
    have c3b0 : decide (x6_1 < (l0.length : Int)) = false := decide_eq_false c3
    clear c3
    obtain rfl := Option.some.inj H
    go_wp2
    go_ret
    exact ⟨_, eqr, atR HO_5, atB HB⟩
noncomputable def spec_doDifferences.L0 (x0 : List Int) (x1 : Int) (x5 : List Int) (x6 : Int) : Option (List Int) := lim fun k => spec_doDifferences.l0 k x0 x1 x5 x6
theorem spec_doDifferences.L0_lim (x0 : List Int) (x1 : Int) (x5 : List Int) (x6 : Int) : Lim (fun k => spec_doDifferences.l0 k x0 x1 x5 x6) (spec_doDifferences.L0 x0 x1 x5 x6) := Lim.of fun k => (spec_doDifferences.mono_l k) x0 x1 x5 x6
noncomputable def spec_doDifferences.F (l0 : List Int) (a1 : Int) : Option (List Int) := lim fun k => spec_doDifferences.f k l0 a1
theorem spec_doDifferences.F_lim (l0 : List Int) (a1 : Int) : Lim (fun k => spec_doDifferences.f k l0 a1) (spec_doDifferences.F l0 a1) := Lim.of fun k => spec_doDifferences.mono l0 a1 k
theorem spec_doDifferences.L0_eq (x0 : List Int) (x1 : Int) (x5 : List Int) (x6 : Int) : spec_doDifferences.L0 x0 x1 x5 x6 = (if x6 < (x0.length : Int) then (if 0 ≤ x6 then (if 0 ≤ (wrap64 (x6 - x1)) then (if (wrap64 (x6 - x1)) < (x0.length : Int) then (if x5.length < 17592186044416 then (spec_doDifferences.L0 x0 x1 (x5 ++ [wrap64 ((rd x0 x6) - (rd x0 (wrap64 (x6 - x1))))]) (wrap64 (x6 + 1))) else (none)) else (none)) else (none)) else (none)) else (some x5)) :=
 Lim.step (f := fun k => spec_doDifferences.l0 (k + 1) x0 x1 x5 x6) (spec_doDifferences.L0_lim x0 x1 x5 x6) (fun _ => rfl) (by
  simp only [spec_doDifferences.l0]
  repeat' (first | (with_reducible first | exact Lim.const _ | exact spec_doDifferences.L0_lim _ _ _ _ | refine Lim.ite ?_ ?_ | refine Lim.bind ?_ (fun _ => ?_))))
theorem spec_doDifferences.F_eq (l0 : List Int) (a1 : Int) : spec_doDifferences.F l0 a1 = (spec_doDifferences.L0 l0 a1 ([] : List Int) a1) :=
 Lim.unique (spec_doDifferences.F_lim l0 a1) (by
  unfold spec_doDifferences.f
  repeat' (first | (with_reducible first | exact Lim.const _ | exact spec_doDifferences.L0_lim _ _ _ _ | refine Lim.ite ?_ ?_ | refine Lim.bind ?_ (fun _ => ?_))))
/-! ### spec_doRepeat: function 120 -/
mutual
def spec_doRepeat.l0 : Nat → List Int → Int → Option (Int × Int × Int × Bool)
 | 0, _, _ => none
 | k + 1, x0, x6 => if x6 < (x0.length : Int) then ((spec_doDifferences.f k x0 x6).bind fun t831 => (spec_doRepeat.l1 k x0 x6 t831 t831 (t831.length : Int) 0)) else (some (0, 0, 0, false))
def spec_doRepeat.l1 : Nat → List Int → Int → List Int → List Int → Int → Int → Option (Int × Int × Int × Bool)
 | 0, _, _, _, _, _, _ => none
 | k + 1, x0, x6, x7, x21, x22, x23 => if x23 < x22 then (if 0 ≤ x23 then (if x23 < (x21.length : Int) then (if x23 ≤ (x7.length : Int) then ((some (x7.take (x23 : Int).toNat : List Int)).bind fun y835 => (spec_doRepeat.l2 k x0 x6 x7 x23 (rd x21 x23) x21 x22 x23 y835 (y835.length : Int) 0)) else (none)) else (none)) else (none)) else (spec_doRepeat.l0 k x0 (wrap64 (x6 + 1)))
def spec_doRepeat.l2 : Nat → List Int → Int → List Int → Int → Int → List Int → Int → Int → List Int → Int → Int → Option (Int × Int × Int × Bool)
 | 0, _, _, _, _, _, _, _, _, _, _, _ => none
 | k + 1, x0, x6, x7, x8, x9, x21, x22, x23, x30, x31, x32 => if x32 < x31 then (if 0 ≤ x32 then (if x32 < (x30.length : Int) then (if (rd x30 x32) = x9 then (some (x6, x32, x8, true)) else (spec_doRepeat.l2 k x0 x6 x7 x8 x9 x21 x22 x23 x30 x31 (wrap64 (x32 + 1)))) else (none)) else (none)) else (spec_doRepeat.l1 k x0 x6 x7 x21 x22 (wrap64 (x23 + 1)))
end
def spec_doRepeat.f (k : Nat) (l0 : List Int) : Option (Int × Int × Int × Bool) := spec_doRepeat.l0 k l0 1
theorem spec_doRepeat.mono_l : ∀ k, (∀ y0 y1, LeO (spec_doRepeat.l0 k y0 y1) (spec_doRepeat.l0 (k + 1) y0 y1)) ∧ (∀ y0 y1 y2 y3 y4 y5, LeO (spec_doRepeat.l1 k y0 y1 y2 y3 y4 y5) (spec_doRepeat.l1 (k + 1) y0 y1 y2 y3 y4 y5)) ∧ (∀ y0 y1 y2 y3 y4 y5 y6 y7 y8 y9 y10, LeO (spec_doRepeat.l2 k y0 y1 y2 y3 y4 y5 y6 y7 y8 y9 y10) (spec_doRepeat.l2 (k + 1) y0 y1 y2 y3 y4 y5 y6 y7 y8 y9 y10))
 | 0 => ⟨fun _ _ r h => by simp [spec_doRepeat.l0] at h, fun _ _ _ _ _ _ r h => by simp [spec_doRepeat.l1] at h, fun _ _ _ _ _ _ _ _ _ _ _ r h => by simp [spec_doRepeat.l2] at h⟩
 | k + 1 => by
  obtain ⟨ih0, ih1, ih2⟩ := spec_doRepeat.mono_l k
  refine ⟨?_, ?_, ?_⟩
  ·intro y0 y1
   unfold spec_doRepeat.l0
   repeat' (first | (with_reducible first | exact ih1 _ _ _ _ _ _ | exact spec_doDifferences.mono _ _ _ | exact LeO.refl _ | exact LeO.none _ | refine LeO.ite ?_ ?_ | refine LeO.bind ?_ (fun _ => ?_)) | exact ih1 _ _ _ _ _ _ | exact spec_doDifferences.mono _ _ _ | exact LeO.none _ | refine LeO.ite ?_ ?_ | refine LeO.bind ?_ (fun _ => ?_))
  ·intro y0 y1 y2 y3 y4 y5
   unfold spec_doRepeat.l1
   repeat' (first | (with_reducible first | exact ih0 _ _ | exact ih2 _ _ _ _ _ _ _ _ _ _ _ | exact LeO.refl _ | exact LeO.none _ | refine LeO.ite ?_ ?_ | refine LeO.bind ?_ (fun _ => ?_)) | exact ih0 _ _ | exact ih2 _ _ _ _ _ _ _ _ _ _ _ | exact LeO.none _ | refine LeO.ite ?_ ?_ | refine LeO.bind ?_ (fun _ => ?_))
  ·intro y0 y1 y2 y3 y4 y5 y6 y7 y8 y9 y10
   unfold spec_doRepeat.l2
   repeat' (first | (with_reducible first | exact ih1 _ _ _ _ _ _ | exact ih2 _ _ _ _ _ _ _ _ _ _ _ | exact LeO.refl _ | exact LeO.none _ | refine LeO.ite ?_ ?_ | refine LeO.bind ?_ (fun _ => ?_)) | exact ih1 _ _ _ _ _ _ | exact ih2 _ _ _ _ _ _ _ _ _ _ _ | exact LeO.none _ | refine LeO.ite ?_ ?_ | refine LeO.bind ?_ (fun _ => ?_))
theorem spec_doRepeat.mono : ∀ a0 k, LeO (spec_doRepeat.f k a0) (spec_doRepeat.f (k + 1) a0) := by
 intro a0 k
 obtain ⟨ih0, ih1, ih2⟩ := spec_doRepeat.mono_l k
 unfold spec_doRepeat.f
 repeat' (first | (with_reducible first | exact ih0 _ _ | exact LeO.refl _ | exact LeO.none _ | refine LeO.ite ?_ ?_ | refine LeO.bind ?_ (fun _ => ?_)) | exact ih0 _ _ | exact LeO.none _ | refine LeO.ite ?_ ?_ | refine LeO.bind ?_ (fun _ => ?_))
set_option maxHeartbeats 8000000 in
set_option maxRecDepth 100000 in
theorem spec_doRepeat.calls (k : Nat) (A0 : Option Addr) (c0 : Nat) (l0 : List Int) (r1 : Int) (r2 : Int) (r3 : Int) (r4 : Bool) (w : World) (hr0 : Kd.C (Kd.int .i64) w A0 l0.length l0) (hc0 : l0.length ≤ c0) (h : spec_doRepeat.f k l0 = some (r1, r2, r3, r4)) :
  Calls Try.prog 120 #[.slice A0 l0.length c0] w fun e w' => e = .returned (.tuple #[.int .i64 r1, .int .i64 r2, .int .i64 r3, .bool r4]) ∧ Below w.heap.size w w' := by
 have HR0 := Aside0.mk hr0
 have HC0 := Aside0.mk hc0
 clear hr0 hc0
 have HB := Aside0.mk (Below.refl w.heap.size w)
 have H := h
 unfold spec_doRepeat.f at H
 clear h
 have H' := Aside0.mk H
 clear H
 go_enter Try.func120, Try.ntmps120
 go_wp2
 go_loopg [6] k (fun kq v6 w' => ∃ (x6_1 : Int), v6 = .int .i64 x6_1 ∧ Aside0 (spec_doRepeat.l0 kq l0 x6_1 = some (r1, r2, r3, r4)) ∧ Aside0 (kq ≤ k) ∧ Aside0 (Below w.heap.size w w'))
 case atStart => exact ⟨(1), eqd, H', ⟨Nat.le_refl _⟩, ⟨atB HB⟩⟩
 case round =>
  clear H'
  try clear c1
  obtain ⟨x6_1, rfl, HA, HK1, HB⟩ := hrel
  cases gk with
  | zero => exact absurd HA.out (by simp [spec_doRepeat.l0])
  | succ k1 =>
   have H := HA.out
   clear HA
   simp only [spec_doRepeat.l0] at H
   by_cases c2 : x6_1 < (l0.length : Int)
   ·rw [if_pos c2] at H
    have c2b0 : decide (x6_1 < (l0.length : Int)) = true := decide_eq_true c2
    clear c2
    replace H := Option.bind_eq_some_iff.mp H
    obtain ⟨t831, A30, H⟩ := H
    replace H : (spec_doRepeat.l1 k1 l0 x6_1 t831 t831 (t831.length : Int) 0) = some (r1, r2, r3, r4) := H
    have A3 := Aside0.mk A30
    clear A30
    have H' := Aside0.mk H
    clear H
    go_wp2_with (first | ((with_reducible refine gate_callee (f := 132) rfl ?_); refine goesA (some 20) Try.func132 #[.slice A0 l0.length c0, .int .i64 x6_1] ?_; (with_reducible refine (spec_doDifferences.calls k1 _ _ l0 x6_1 t831 _ ?side1 ?side2 A3.out).mono ?_); (case side1 => repeat (first | exact (Kd.C_below HR0.out HB.out) | (with_reducible refine Kd.C_alloc ?_ _) | (with_reducible refine Kd.C_drewN ?_ _) | (with_reducible refine Kd.C_drew ?_))); (case side2 => exact HC0.out); rintro e w4 ⟨v832, rfl, ho0, hb⟩; refine ⟨_, rfl, ?_⟩; have HO833 := lowR ho0 HB; replace HB := upB HB hb; (try clear hb); (try clear hb2); (try clear hk); (try clear hi); (try clear ho0); obtain ⟨Ao5, co5, eo5⟩ := Kd.R_slice HO833.out; subst eo5))
    go_loopg [23] k1 (fun kq v23 w' => ∃ (x23_2 : Int), v23 = .int .i64 x23_2 ∧ Aside0 (spec_doRepeat.l1 kq l0 x6_1 t831 t831 (t831.length : Int) x23_2 = some (r1, r2, r3, r4)) ∧ Aside0 (kq ≤ k1) ∧ Aside0 (Kd.R (Kd.int .i64) 3 w' w.heap.size (fun _ => True) (.slice Ao5 t831.length co5) t831) ∧ Aside0 (Kd.R (Kd.int .i64) 3 w' w.heap.size (fun _ => True) (.slice Ao5 t831.length co5) t831) ∧ Aside0 (Below w.heap.size w w'))
    case atStart => exact ⟨(0), eqd, H', ⟨Nat.le_refl _⟩, ⟨atR HO833⟩, ⟨atR HO833⟩, ⟨atB HB⟩⟩
    case round =>
     clear H'
     try clear c1
     try clear c2
     try clear c2b0
     try clear p2
     obtain ⟨x23_2, rfl, HA, HK2, HO_7, HO_21, HB⟩ := hrel
     cases gk with
     | zero => exact absurd HA.out (by simp [spec_doRepeat.l1])
     | succ k2 =>
      have H := HA.out
      clear HA
      simp only [spec_doRepeat.l1] at H
      by_cases c6 : x23_2 < (t831.length : Int)
      ·rw [if_pos c6] at H
       have c6b0 : decide (x23_2 < (t831.length : Int)) = true := decide_eq_true c6
       clear c6
       by_cases c7 : 0 ≤ x23_2
       ·rw [if_pos c7] at H
        have c7b0 : decide (0 ≤ x23_2) = true := decide_eq_true c7
        clear c7
        by_cases c8 : x23_2 < (t831.length : Int)
        ·rw [if_pos c8] at H
         have c8b0 : decide (x23_2 < (t831.length : Int)) = true := decide_eq_true c8
         clear c8
         have c9b0 := eq_true (of_decide_eq_true (by first | (with_reducible assumption) | assumption) : 0 ≤ x23_2)
         by_cases c10 : x23_2 ≤ (t831.length : Int)
         ·rw [if_pos c10] at H
          have c10b0 := eq_true c10
          have c10b1 : decide (x23_2 ≤ (t831.length : Int)) = true := decide_eq_true c10
          clear c10
          obtain ⟨y835, hy835⟩ : ∃ y_ : List Int, y_ = (t831.take (x23_2 : Int).toNat) := ⟨_, rfl⟩
          replace H : (spec_doRepeat.l2 k2 l0 x6_1 t831 x23_2 (rd t831 x23_2) t831 (t831.length : Int) x23_2 y835 (y835.length : Int) 0) = some (r1, r2, r3, r4) := by first | (rw [hy835]; with_reducible exact H) | (have H2_ := (Option.bind_some _ _).symm.trans H; rw [hy835]; with_reducible exact H2_) | (have H2_ := (Option.bind_some _ _).symm.trans H; with_reducible exact H2_) | with_reducible exact H | (rw [hy835]; exact H) | exact H
          have Ny835 := Aside0.mk hy835
          clear hy835
          have H' := Aside0.mk H
          clear H
          have p834 : 0 ≤ (x23_2 : Int) := ofd
          have q834 : x23_2 < (t831.length : Int) := ofd
          obtain ⟨ad834, e834, hx834_0⟩ := Kd.at_int (Kd.R_reads' HO_21.out).2.2 x23_2 p834 q834
          cases e834
          replace p834 := eq_true p834
          replace q834 := eq_true q834
          have q11 : (x23_2 : Int) ≤ ((t831.length : Int) : Int) := ofd
          obtain ⟨i011, hi011, _, hsz11, _⟩ := info_parts info3
          have hroom11 : t831.length ≤ co5 := (Kd.R_reads' HO_7.out).2.1
          have hC11 : Kd.C (Kd.int .i64) _ (some ad834) t831.length t831 := (Kd.R_reads' HO_7.out).2.2
          have hcut11 := cut_to (P := Try.prog) 24 3 .i64 Try.underlying24 hi011 (some ad834) t831.length co5 x23_2 (of_decide_eq_true (by first | (with_reducible assumption) | assumption)) q11 hroom11
          have hr11 := Kd.C_take (m := (x23_2 : Int).toNat) hC11 (by omega)
          have hy11 : y835.length = (x23_2 : Int).toNat := (by rw [Ny835.out, List.length_take]; omega)
          rw [← Ny835.out] at hr11
          rw [← hy11] at hcut11
          have HR838 := Aside0.mk hr11
          have HC838 := Aside0.mk (show y835.length ≤ co5 from by omega)
          clear hr11 hC11 hroom11 hi011 hsz11
          have KY11 := Aside0.mk hy11
          clear hy11
          have KL11 := Aside0.mk (show (x23_2 : Int).toNat ≤ t831.length from by omega)
          replace q11 := eq_true q11
          go_wp2
          go_loopg [32] k2 (fun kq v32 w' => ∃ (x32_3 : Int), v32 = .int .i64 x32_3 ∧ Aside0 (spec_doRepeat.l2 kq l0 x6_1 t831 x23_2 (rd t831 x23_2) t831 (t831.length : Int) x23_2 y835 (y835.length : Int) x32_3 = some (r1, r2, r3, r4)) ∧ Aside0 (kq ≤ k2) ∧ Aside0 (Kd.R (Kd.int .i64) 3 w' w.heap.size (fun _ => True) (.slice (some ad834) t831.length co5) t831) ∧ Aside0 (Kd.R (Kd.int .i64) 3 w' w.heap.size (fun _ => True) (.slice (some ad834) t831.length co5) t831) ∧ Aside0 (Kd.C (Kd.int .i64) w' (some ad834) y835.length y835) ∧ Aside0 (Below w.heap.size w w'))
          case atStart => exact ⟨(0), eqd, H', ⟨Nat.le_refl _⟩, ⟨atR HO_7⟩, ⟨atR HO_21⟩, ⟨atC HR838⟩, ⟨atB HB⟩⟩
          case round =>
           clear H'
           try clear c1
           try clear q1
           try clear c2
           try clear c2b0
           try clear p2
           try clear c6
           try clear c6b0
           try clear c7
           try clear c7b0
           try clear c8
           try clear c8b0
           try clear p8
           try clear q8
           try clear hx8
           try clear c9
           try clear c9b0
           try clear c10
           try clear c10b0
           try clear c10b1
           try clear q11
           try clear hx834_0
           try clear p2
           try clear p834
           try clear q11
           try clear q834
           obtain ⟨x32_3, rfl, HA, HK3, HO_7, HO_21, HR838, HB⟩ := hrel
           cases gk with
           | zero => exact absurd HA.out (by simp [spec_doRepeat.l2])
           | succ k3 =>
            have H := HA.out
            clear HA
            simp only [spec_doRepeat.l2] at H
            by_cases c12 : x32_3 < (y835.length : Int)
            ·rw [if_pos c12] at H
             have c12b0 : decide (x32_3 < (y835.length : Int)) = true := decide_eq_true c12
             clear c12
             by_cases c13 : 0 ≤ x32_3
             ·rw [if_pos c13] at H
              have c13b0 : decide (0 ≤ x32_3) = true := decide_eq_true c13
              clear c13
              by_cases c14 : x32_3 < (y835.length : Int)
              ·rw [if_pos c14] at H
               have c14b0 : decide (x32_3 < (y835.length : Int)) = true := decide_eq_true c14
               clear c14
               by_cases c15 : (rd y835 x32_3) = (rd t831 x23_2)
               ·rw [if_pos c15] at H
                have c15b0 : ((rd y835 x32_3) == (rd t831 x23_2)) = true := beq_iff_eq.mpr c15
                have c15b1 : ((rd y835 x32_3) != (rd t831 x23_2)) = false := bne_eq_false_iff_eq.mpr c15
                clear c15
                simp only [Option.some.injEq, Prod.mk.injEq] at H
                obtain ⟨rfl, rfl, rfl, rfl⟩ := H
                have p839 : 0 ≤ (x32_3 : Int) := ofd
                have q839 : x32_3 < (y835.length : Int) := ofd
                obtain ⟨ad839, e839, hx839_0⟩ := Kd.at_int HR838.out x32_3 p839 q839
                obtain rfl : ad834 = ad839 := (by injection e839)
                (try replace hx839_0 := (HB.out.cell (World.block_lt_of_cell? w _ hx839_0)).trans hx839_0)
                replace p839 := eq_true p839
                replace q839 := eq_true q839
                go_wp2
                refine bodyPost_ret (results_list (rs := [.tmp 2, .tmp 3, .tmp 4, .tmp 5]) rfl (by simp) (.tmp (.tmp (.tmp (.tmp .nil))))) rfl ?_
                exact ⟨eqr, atB HB⟩
               ·rw [if_neg c15] at H
                have c15b0 : ((rd y835 x32_3) == (rd t831 x23_2)) = false := beq_eq_false_iff_ne.mpr c15
                have c15b1 : ((rd y835 x32_3) != (rd t831 x23_2)) = true := bne_iff_ne.mpr c15
                have H' := Aside0.mk H
                clear H
                have p839 : 0 ≤ (x32_3 : Int) := ofd
                have q839 : x32_3 < (y835.length : Int) := ofd
                obtain ⟨ad839, e839, hx839_0⟩ := Kd.at_int HR838.out x32_3 p839 q839
                obtain rfl : ad834 = ad839 := (by injection e839)
                (try replace hx839_0 := (HB.out.cell (World.block_lt_of_cell? w _ hx839_0)).trans hx839_0)
                replace p839 := eq_true p839
                replace q839 := eq_true q839
                go_wp2
                go_roundg k3
                case measure => have := HK1.out; have := HK2.out; have := HK3.out; omega
                case rel => exact ⟨(wrap64 (x32_3 + 1)), eqd, H', ⟨by have := HK1.out; have := HK2.out; have := HK3.out; omega⟩, ⟨atR HO_7⟩, ⟨atR HO_21⟩, ⟨atC HR838⟩, ⟨atB HB⟩⟩
              ·rw [if_neg c14] at H
               exact absurd H (by simp)
             ·rw [if_neg c13] at H
              exact absurd H (by simp)
            ·rw [if_neg c12] at H
             have c12b0 : decide (x32_3 < (y835.length : Int)) = false := decide_eq_false c12
             clear c12
             have H' := Aside0.mk H
             clear H
             go_wp2
             go_roundg k3
             case measure => have := HK1.out; have := HK2.out; have := HK3.out; omega
             case rel => exact ⟨(wrap64 (x23_2 + 1)), eqd, H', ⟨by have := HK1.out; have := HK2.out; have := HK3.out; omega⟩, ⟨atR HO_7⟩, ⟨atR HO_21⟩, ⟨atB HB⟩⟩
         ·rw [if_neg c10] at H
          exact absurd H (by simp)
        ·rw [if_neg c8] at H
         exact absurd H (by simp)
       ·rw [if_neg c7] at H
        exact absurd H (by simp)
      ·rw [if_neg c6] at H
       have c6b0 : decide (x23_2 < (t831.length : Int)) = false := decide_eq_false c6
       clear c6
       have H' := Aside0.mk H
       clear H
       go_wp2
       go_roundg k2
       case measure => have := HK1.out; have := HK2.out; omega
       case rel => exact ⟨(wrap64 (x6_1 + 1)), eqd, H', ⟨by have := HK1.out; have := HK2.out; omega⟩, ⟨atB HB⟩⟩
   ·rw [if_neg c2] at H
    have c2b0 : decide (x6_1 < (l0.length : Int)) = false := decide_eq_false c2
    clear c2
    simp only [Option.some.injEq, Prod.mk.injEq] at H
    obtain ⟨rfl, rfl, rfl, rfl⟩ := H
    go_wp2
    refine bodyPost_ret (results_list (rs := [.tmp 2, .tmp 3, .tmp 4, .tmp 5]) rfl (by simp) (.tmp (.tmp (.tmp (.tmp .nil))))) rfl ?_
    exact ⟨eqr, atB HB⟩
noncomputable def spec_doRepeat.L0 (x0 : List Int) (x6 : Int) : Option (Int × Int × Int × Bool) := lim fun k => spec_doRepeat.l0 k x0 x6
theorem spec_doRepeat.L0_lim (x0 : List Int) (x6 : Int) : Lim (fun k => spec_doRepeat.l0 k x0 x6) (spec_doRepeat.L0 x0 x6) := Lim.of fun k => (spec_doRepeat.mono_l k).1 x0 x6
noncomputable def spec_doRepeat.L1 (x0 : List Int) (x6 : Int) (x7 : List Int) (x21 : List Int) (x22 : Int) (x23 : Int) : Option (Int × Int × Int × Bool) := lim fun k => spec_doRepeat.l1 k x0 x6 x7 x21 x22 x23
theorem spec_doRepeat.L1_lim (x0 : List Int) (x6 : Int) (x7 : List Int) (x21 : List Int) (x22 : Int) (x23 : Int) : Lim (fun k => spec_doRepeat.l1 k x0 x6 x7 x21 x22 x23) (spec_doRepeat.L1 x0 x6 x7 x21 x22 x23) := Lim.of fun k => (spec_doRepeat.mono_l k).2.1 x0 x6 x7 x21 x22 x23
noncomputable def spec_doRepeat.L2 (x0 : List Int) (x6 : Int) (x7 : List Int) (x8 : Int) (x9 : Int) (x21 : List Int) (x22 : Int) (x23 : Int) (x30 : List Int) (x31 : Int) (x32 : Int) : Option (Int × Int × Int × Bool) := lim fun k => spec_doRepeat.l2 k x0 x6 x7 x8 x9 x21 x22 x23 x30 x31 x32
theorem spec_doRepeat.L2_lim (x0 : List Int) (x6 : Int) (x7 : List Int) (x8 : Int) (x9 : Int) (x21 : List Int) (x22 : Int) (x23 : Int) (x30 : List Int) (x31 : Int) (x32 : Int) : Lim (fun k => spec_doRepeat.l2 k x0 x6 x7 x8 x9 x21 x22 x23 x30 x31 x32) (spec_doRepeat.L2 x0 x6 x7 x8 x9 x21 x22 x23 x30 x31 x32) := Lim.of fun k => (spec_doRepeat.mono_l k).2.2 x0 x6 x7 x8 x9 x21 x22 x23 x30 x31 x32
noncomputable def spec_doRepeat.F (l0 : List Int) : Option (Int × Int × Int × Bool) := lim fun k => spec_doRepeat.f k l0
theorem spec_doRepeat.F_lim (l0 : List Int) : Lim (fun k => spec_doRepeat.f k l0) (spec_doRepeat.F l0) := Lim.of fun k => spec_doRepeat.mono l0 k
theorem spec_doRepeat.L0_eq (x0 : List Int) (x6 : Int) : spec_doRepeat.L0 x0 x6 = (if x6 < (x0.length : Int) then ((spec_doDifferences.F x0 x6).bind fun t831 => (spec_doRepeat.L1 x0 x6 t831 t831 (t831.length : Int) 0)) else (some (0, 0, 0, false))) :=
 Lim.step (f := fun k => spec_doRepeat.l0 (k + 1) x0 x6) (spec_doRepeat.L0_lim x0 x6) (fun _ => rfl) (by
  simp only [spec_doRepeat.l0]
  repeat' (first | (with_reducible first | exact Lim.const _ | exact spec_doDifferences.F_lim _ _ | exact spec_doRepeat.L1_lim _ _ _ _ _ _ | refine Lim.ite ?_ ?_ | refine Lim.bind ?_ (fun _ => ?_))))
theorem spec_doRepeat.L1_eq (x0 : List Int) (x6 : Int) (x7 : List Int) (x21 : List Int) (x22 : Int) (x23 : Int) : spec_doRepeat.L1 x0 x6 x7 x21 x22 x23 = (if x23 < x22 then (if 0 ≤ x23 then (if x23 < (x21.length : Int) then (if x23 ≤ (x7.length : Int) then ((some (x7.take (x23 : Int).toNat : List Int)).bind fun y835 => (spec_doRepeat.L2 x0 x6 x7 x23 (rd x21 x23) x21 x22 x23 y835 (y835.length : Int) 0)) else (none)) else (none)) else (none)) else (spec_doRepeat.L0 x0 (wrap64 (x6 + 1)))) :=
 Lim.step (f := fun k => spec_doRepeat.l1 (k + 1) x0 x6 x7 x21 x22 x23) (spec_doRepeat.L1_lim x0 x6 x7 x21 x22 x23) (fun _ => rfl) (by
  simp only [spec_doRepeat.l1]
  repeat' (first | (with_reducible first | exact Lim.const _ | exact spec_doRepeat.L0_lim _ _ | exact spec_doRepeat.L2_lim _ _ _ _ _ _ _ _ _ _ _ | refine Lim.ite ?_ ?_ | refine Lim.bind ?_ (fun _ => ?_))))
theorem spec_doRepeat.L2_eq (x0 : List Int) (x6 : Int) (x7 : List Int) (x8 : Int) (x9 : Int) (x21 : List Int) (x22 : Int) (x23 : Int) (x30 : List Int) (x31 : Int) (x32 : Int) : spec_doRepeat.L2 x0 x6 x7 x8 x9 x21 x22 x23 x30 x31 x32 = (if x32 < x31 then (if 0 ≤ x32 then (if x32 < (x30.length : Int) then (if (rd x30 x32) = x9 then (some (x6, x32, x8, true)) else (spec_doRepeat.L2 x0 x6 x7 x8 x9 x21 x22 x23 x30 x31 (wrap64 (x32 + 1)))) else (none)) else (none)) else (spec_doRepeat.L1 x0 x6 x7 x21 x22 (wrap64 (x23 + 1)))) :=
 Lim.step (f := fun k => spec_doRepeat.l2 (k + 1) x0 x6 x7 x8 x9 x21 x22 x23 x30 x31 x32) (spec_doRepeat.L2_lim x0 x6 x7 x8 x9 x21 x22 x23 x30 x31 x32) (fun _ => rfl) (by
  simp only [spec_doRepeat.l2]
  repeat' (first | (with_reducible first | exact Lim.const _ | exact spec_doRepeat.L1_lim _ _ _ _ _ _ | exact spec_doRepeat.L2_lim _ _ _ _ _ _ _ _ _ _ _ | refine Lim.ite ?_ ?_ | refine Lim.bind ?_ (fun _ => ?_))))
theorem spec_doRepeat.F_eq (l0 : List Int) : spec_doRepeat.F l0 = (spec_doRepeat.L0 l0 1) :=
 Lim.unique (spec_doRepeat.F_lim l0) (by
  unfold spec_doRepeat.f
  repeat' (first | (with_reducible first | exact Lim.const _ | exact spec_doRepeat.L0_lim _ _ | refine Lim.ite ?_ ?_ | refine Lim.bind ?_ (fun _ => ?_))))
/-! ### spec_doCostas: function 118 -/
def spec_doCostas.f (k : Nat) (l0 : List Int) : Option (Bool) := (spec_doRepeat.f k l0).bind fun bt840 => (some (!bt840.2.2.2))
theorem spec_doCostas.mono : ∀ a0 k, LeO (spec_doCostas.f k a0) (spec_doCostas.f (k + 1) a0) := by
 intro a0 k
 unfold spec_doCostas.f
 repeat' (first | (with_reducible first | exact spec_doRepeat.mono _ _ | exact LeO.refl _ | exact LeO.none _ | refine LeO.ite ?_ ?_ | refine LeO.bind ?_ (fun _ => ?_)) | exact spec_doRepeat.mono _ _ | exact LeO.none _ | refine LeO.ite ?_ ?_ | refine LeO.bind ?_ (fun _ => ?_))
set_option maxHeartbeats 8000000 in
set_option maxRecDepth 100000 in
theorem spec_doCostas.calls (k : Nat) (A0 : Option Addr) (c0 : Nat) (l0 : List Int) (r : Bool) (w : World) (hr0 : Kd.C (Kd.int .i64) w A0 l0.length l0) (hc0 : l0.length ≤ c0) (h : spec_doCostas.f k l0 = some r) :
  Calls Try.prog 118 #[.slice A0 l0.length c0] w fun e w' => e = .returned (.bool r) ∧ Below w.heap.size w w' := by
 have HR0 := Aside0.mk hr0
 have HC0 := Aside0.mk hc0
 clear hr0 hc0
 have HB := Aside0.mk (Below.refl w.heap.size w)
 have H := h
 unfold spec_doCostas.f at H
 clear h
 replace H := Option.bind_eq_some_iff.mp H
 obtain ⟨⟨t840, t841, t842, t843⟩, A20, H⟩ := H
 replace H : (some (!t843)) = some r := H
 have A2 := Aside0.mk A20
 clear A20
 obtain rfl := Option.some.inj H
 go_enter Try.func118, Try.ntmps118
 go_wp2_with (first | ((with_reducible refine gate_callee (f := 120) rfl ?_); refine goesA (some 9) Try.func120 #[.slice A0 l0.length c0] ?_; (with_reducible refine (spec_doRepeat.calls k _ _ l0 t840 t841 t842 t843 _ ?side1 ?side2 A2.out).mono ?_); (case side1 => repeat (first | exact HR0.out | (with_reducible refine Kd.C_alloc ?_ _) | (with_reducible refine Kd.C_drewN ?_ _) | (with_reducible refine Kd.C_drew ?_))); (case side2 => exact HC0.out); rintro e w3 ⟨rfl, hb⟩; refine ⟨_, rfl, ?_⟩; replace HB := upB HB hb; (try clear hb); (try clear hb2); (try clear hk); (try clear hi)))
 go_ret
 exact ⟨eqr, atB HB⟩
noncomputable def spec_doCostas.F (l0 : List Int) : Option (Bool) := lim fun k => spec_doCostas.f k l0
theorem spec_doCostas.F_lim (l0 : List Int) : Lim (fun k => spec_doCostas.f k l0) (spec_doCostas.F l0) := Lim.of fun k => spec_doCostas.mono l0 k
theorem spec_doCostas.F_eq (l0 : List Int) : spec_doCostas.F l0 = ((spec_doRepeat.F l0).bind fun bt840 => (some (!bt840.2.2.2))) :=
 Lim.unique (spec_doCostas.F_lim l0) (by
  unfold spec_doCostas.f
  repeat' (first | (with_reducible first | exact Lim.const _ | exact spec_doRepeat.F_lim _ | refine Lim.ite ?_ ?_ | refine Lim.bind ?_ (fun _ => ?_))))
/-! ### spec_l1Has: function 134 -/
def spec_l1Has.l0 : Nat → Int → List Int → Int → Int → Option (Bool)
 | 0, _, _, _, _ => none
 | k + 1, x1, x7, x8, x9 => if x9 < x8 then (if 0 ≤ x9 then (if x9 < (x7.length : Int) then (if (rd x7 x9) = x1 then (some true) else (spec_l1Has.l0 k x1 x7 x8 (wrap64 (x9 + 1)))) else (none)) else (none)) else (some false)
def spec_l1Has.f (k : Nat) (l0 : List Int) (a1 : Int) : Option (Bool) := spec_l1Has.l0 k a1 l0 (l0.length : Int) 0
theorem spec_l1Has.mono_l : ∀ k, (∀ y0 y1 y2 y3, LeO (spec_l1Has.l0 k y0 y1 y2 y3) (spec_l1Has.l0 (k + 1) y0 y1 y2 y3))
 | 0 => fun _ _ _ _ r h => by simp [spec_l1Has.l0] at h
 | k + 1 => by
  have ih0 := spec_l1Has.mono_l k
  ·intro y0 y1 y2 y3
   unfold spec_l1Has.l0
   repeat' (first | (with_reducible first | exact ih0 _ _ _ _ | exact LeO.refl _ | exact LeO.none _ | refine LeO.ite ?_ ?_ | refine LeO.bind ?_ (fun _ => ?_)) | exact ih0 _ _ _ _ | exact LeO.none _ | refine LeO.ite ?_ ?_ | refine LeO.bind ?_ (fun _ => ?_))
theorem spec_l1Has.mono : ∀ a0 a1 k, LeO (spec_l1Has.f k a0 a1) (spec_l1Has.f (k + 1) a0 a1) := by
 intro a0 a1 k
 have ih0 := spec_l1Has.mono_l k
 unfold spec_l1Has.f
 repeat' (first | (with_reducible first | exact ih0 _ _ _ _ | exact LeO.refl _ | exact LeO.none _ | refine LeO.ite ?_ ?_ | refine LeO.bind ?_ (fun _ => ?_)) | exact ih0 _ _ _ _ | exact LeO.none _ | refine LeO.ite ?_ ?_ | refine LeO.bind ?_ (fun _ => ?_))
set_option maxHeartbeats 8000000 in
set_option maxRecDepth 100000 in
theorem spec_l1Has.calls (k : Nat) (A0 : Option Addr) (c0 : Nat) (l0 : List Int) (a1 : Int) (r : Bool) (w : World) (hr0 : Kd.C (Kd.int .i64) w A0 l0.length l0) (hc0 : l0.length ≤ c0) (h : spec_l1Has.f k l0 a1 = some r) :
  Calls Try.prog 134 #[.slice A0 l0.length c0, .int .i64 a1] w fun e w' => e = .returned (.bool r) ∧ Drawn0 w w' := by
 have HR0 := Aside0.mk hr0
 have HC0 := Aside0.mk hc0
 clear hr0 hc0
 have H := h
 unfold spec_l1Has.f at H
 clear h
 have H' := Aside0.mk H
 clear H
 go_enter Try.func134, Try.ntmps134
 go_wp2
 go_loopg [9] k (fun kq v9 w' => ∃ (x9_1 : Int), v9 = .int .i64 x9_1 ∧ Aside0 (spec_l1Has.l0 kq a1 l0 (l0.length : Int) x9_1 = some r) ∧ Aside0 (kq ≤ k) ∧ Drawn0 w w')
 case atStart => exact ⟨(0), eqd, H', ⟨Nat.le_refl _⟩, by repeat (first | exact Drawn0.refl _ | apply Drawn0.step)⟩
 case round =>
  clear H'
  try clear c1
  try clear p2
  obtain ⟨x9_1, rfl, HA, HK1, ⟨m1, rfl⟩⟩ := hrel
  cases gk with
  | zero => exact absurd HA.out (by simp [spec_l1Has.l0])
  | succ k1 =>
   have H := HA.out
   clear HA
   simp only [spec_l1Has.l0] at H
   by_cases c3 : x9_1 < (l0.length : Int)
   ·rw [if_pos c3] at H
    have c3b0 : decide (x9_1 < (l0.length : Int)) = true := decide_eq_true c3
    clear c3
    by_cases c4 : 0 ≤ x9_1
    ·rw [if_pos c4] at H
     have c4b0 : decide (0 ≤ x9_1) = true := decide_eq_true c4
     clear c4
     by_cases c5 : x9_1 < (l0.length : Int)
     ·rw [if_pos c5] at H
      have c5b0 : decide (x9_1 < (l0.length : Int)) = true := decide_eq_true c5
      clear c5
      by_cases c6 : (rd l0 x9_1) = a1
      ·rw [if_pos c6] at H
       have c6b0 : ((rd l0 x9_1) == a1) = true := beq_iff_eq.mpr c6
       have c6b1 : ((rd l0 x9_1) != a1) = false := bne_eq_false_iff_eq.mpr c6
       clear c6
       obtain rfl := Option.some.inj H
       have p234 : 0 ≤ (x9_1 : Int) := ofd
       have q234 : x9_1 < (l0.length : Int) := ofd
       obtain ⟨ad234, e234, hx234_0⟩ := Kd.at_int HR0.out x9_1 p234 q234
       cases e234
       replace p234 := eq_true p234
       replace q234 := eq_true q234
       go_wp2
       go_ret
       exact ⟨by first | rfl | (simp; done) | (simp [*]; done), by repeat (first | exact Drawn0.refl _ | apply Drawn0.step)⟩
      ·rw [if_neg c6] at H
       have c6b0 : ((rd l0 x9_1) == a1) = false := beq_eq_false_iff_ne.mpr c6
       have c6b1 : ((rd l0 x9_1) != a1) = true := bne_iff_ne.mpr c6
       have H' := Aside0.mk H
       clear H
       have p234 : 0 ≤ (x9_1 : Int) := ofd
       have q234 : x9_1 < (l0.length : Int) := ofd
       obtain ⟨ad234, e234, hx234_0⟩ := Kd.at_int HR0.out x9_1 p234 q234
       cases e234
       replace p234 := eq_true p234
       replace q234 := eq_true q234
       go_wp2
       go_roundg k1
       case measure => have := HK1.out; omega
       case rel => exact ⟨(wrap64 (x9_1 + 1)), eqd, H', ⟨by have := HK1.out; omega⟩, by repeat (first | exact Drawn0.refl _ | apply Drawn0.step)⟩
     ·rw [if_neg c5] at H
      exact absurd H (by simp)
    ·rw [if_neg c4] at H
     exact absurd H (by simp)
   ·rw [if_neg c3] at H
    have c3b0 : decide (x9_1 < (l0.length : Int)) = false := decide_eq_false c3
    clear c3
    obtain rfl := Option.some.inj H
    go_wp2
    go_ret
    exact ⟨by first | rfl | (simp; done) | (simp [*]; done), by repeat (first | exact Drawn0.refl _ | apply Drawn0.step)⟩
noncomputable def spec_l1Has.L0 (x1 : Int) (x7 : List Int) (x8 : Int) (x9 : Int) : Option (Bool) := lim fun k => spec_l1Has.l0 k x1 x7 x8 x9
theorem spec_l1Has.L0_lim (x1 : Int) (x7 : List Int) (x8 : Int) (x9 : Int) : Lim (fun k => spec_l1Has.l0 k x1 x7 x8 x9) (spec_l1Has.L0 x1 x7 x8 x9) := Lim.of fun k => (spec_l1Has.mono_l k) x1 x7 x8 x9
noncomputable def spec_l1Has.F (l0 : List Int) (a1 : Int) : Option (Bool) := lim fun k => spec_l1Has.f k l0 a1
theorem spec_l1Has.F_lim (l0 : List Int) (a1 : Int) : Lim (fun k => spec_l1Has.f k l0 a1) (spec_l1Has.F l0 a1) := Lim.of fun k => spec_l1Has.mono l0 a1 k
theorem spec_l1Has.L0_eq (x1 : Int) (x7 : List Int) (x8 : Int) (x9 : Int) : spec_l1Has.L0 x1 x7 x8 x9 = (if x9 < x8 then (if 0 ≤ x9 then (if x9 < (x7.length : Int) then (if (rd x7 x9) = x1 then (some true) else (spec_l1Has.L0 x1 x7 x8 (wrap64 (x9 + 1)))) else (none)) else (none)) else (some false)) :=
 Lim.step (f := fun k => spec_l1Has.l0 (k + 1) x1 x7 x8 x9) (spec_l1Has.L0_lim x1 x7 x8 x9) (fun _ => rfl) (by
  simp only [spec_l1Has.l0]
  repeat' (first | (with_reducible first | exact Lim.const _ | exact spec_l1Has.L0_lim _ _ _ _ | refine Lim.ite ?_ ?_ | refine Lim.bind ?_ (fun _ => ?_))))
theorem spec_l1Has.F_eq (l0 : List Int) (a1 : Int) : spec_l1Has.F l0 a1 = (spec_l1Has.L0 a1 l0 (l0.length : Int) 0) :=
 Lim.unique (spec_l1Has.F_lim l0 a1) (by
  unfold spec_l1Has.f
  repeat' (first | (with_reducible first | exact Lim.const _ | exact spec_l1Has.L0_lim _ _ _ _ | refine Lim.ite ?_ ?_ | refine Lim.bind ?_ (fun _ => ?_))))
/-! ### spec_l1Own: function 144 -/
def spec_l1Own.f (l0 : List Int) : Option (List Int) := (some (([] : List Int) : List Int)).bind fun y157 => (if y157.length + l0.length < 17592186044416 then (some (y157 ++ l0)) else (none))
set_option maxHeartbeats 8000000 in
set_option maxRecDepth 100000 in
theorem spec_l1Own.calls (A0 : Option Addr) (c0 : Nat) (l0 : List Int) (r : List Int) (w : World) (hr0 : Kd.C (Kd.int .i64) w A0 l0.length l0) (hc0 : l0.length ≤ c0) (h : spec_l1Own.f l0 = some r) :
  Calls Try.prog 144 #[.slice A0 l0.length c0] w fun e w' => ∃ v0_ : Value, e = .returned (v0_) ∧ Kd.R (Kd.int .i64) 3 w' w.heap.size (fun _ => True) v0_ r ∧ Below w.heap.size w w' := by
 have HR0 := Aside0.mk hr0
 have HC0 := Aside0.mk hc0
 clear hr0 hc0
 have HB := Aside0.mk (Below.refl w.heap.size w)
 have H := h
 unfold spec_l1Own.f at H
 clear h
 obtain ⟨y157, hy157⟩ : ∃ y_ : List Int, y_ = (([] : List Int)) := ⟨_, rfl⟩
 replace H : (if y157.length + l0.length < 17592186044416 then (some (y157 ++ l0)) else (none)) = some r := by first | (rw [hy157]; with_reducible exact H) | (have H2_ := (Option.bind_some _ _).symm.trans H; rw [hy157]; with_reducible exact H2_) | (have H2_ := (Option.bind_some _ _).symm.trans H; with_reducible exact H2_) | with_reducible exact H | (rw [hy157]; exact H) | exact H
 have Ny157 := Aside0.mk hy157
 clear hy157
 by_cases c2 : y157.length + l0.length < 17592186044416
 ·rw [if_pos c2] at H
  have LMc2 := Aside0.mk c2
  clear c2
  obtain ⟨y160, hy160⟩ : ∃ y_ : List Int, y_ = (y157 ++ l0) := ⟨_, rfl⟩
  replace H : (some y160) = some r := by first | (rw [hy160]; with_reducible exact H) | (have H2_ := (Option.bind_some _ _).symm.trans H; rw [hy160]; with_reducible exact H2_) | (have H2_ := (Option.bind_some _ _).symm.trans H; with_reducible exact H2_) | with_reducible exact H | (rw [hy160]; exact H) | exact H
  have Ny160 := Aside0.mk hy160
  clear hy160
  obtain rfl := Option.some.inj H
  go_enter Try.func144, Try.ntmps144
  go_wp2_with (first | ((with_reducible refine gate_dst (N := 3) rfl ?_); refine Kd.R_lit (Kd.int .i64) _ 3 ?hg (N := 3) ?hd (xs := ([] : List Int)) (inner := []) (ok := fun _ => True) (okp := fun _ => True) ?hr ?hp (fun _ hk => hk) trivial (Below.refl _ _) (Nat.le_refl _) (by simp) ?_; (case hd => rfl); (case hg => rfl); (case hr => first | (go_simp; done) | (go_simp; rfl)); (case hp => exact (Reps.none _ _)); intro v158 w3 ho4 hb hg_ hnew_; clear hg_ hnew_; (first | rw [← Ny157.out] at ho4 | (simp only [Int.reduceToNat] at ho4; rw [← Ny157.out] at ho4)); have HO159 := lowR ho4 HB; replace HB := upB HB hb; clear hb ho4) | ((with_reducible refine gate_builtin (b := .append) (xs := #[.tmp 3, .tmp 4]) rfl ?_); at_builtin; refine Kd.R_append_rows (Kd.int .i64) (w0 := w) w.heap.size rfl (.tmp 3) (.tmp 4) 24 3 (.int .i64 0) 8 rfl Try.underlying24 info3 rfl (by decide) (by omega) v158 y157 l0 _ _ _ (fun _ => True) (fun _ => False) rfl rfl ?aO ?aR (fun _ _ h => h) (fun _ h => h.elim) ?aF ?aB ?aS ?aL ?_; (case aR => repeat (first | exact (Kd.C_below HR0.out HB.out) | (with_reducible refine Kd.C_alloc ?_ _) | (with_reducible refine Kd.C_drewN ?_ _) | (with_reducible refine Kd.C_drew ?_))); (case aB => exact (atB HB)); (case aF => exact (fun _ _ => trivial)); (case aO => exact (atR HO159)); (case aS => exact (szB HB)); (case aL => have := LMc2.out; omega); intro v161 w5 ho hb hg hat; rw [← Ny160.out] at ho; have HO162 := Aside0.mk (ho); replace HB := Aside0.mk (hb); clear HO159; clear ho hb hg hat))
  go_ret
  exact ⟨_, eqr, atR HO162, atB HB⟩
 ·rw [if_neg c2] at H
  exact absurd H (by simp)
/-! ### spec_doAll: function 126 -/
mutual
def spec_doAll.l0 : Nat → Int → List Int → Int → List (List Int) → Int → Option ((List (List Int)))
 | 0, _, _, _, _, _ => none
 | k + 1, x0, x1, x2, x7, x8 => if x8 < x0 then (spec_doAll.j1 k x0 x1 x2 x7 x8 (decide ((x7.length : Int) < x2))) else (spec_doAll.j1 k x0 x1 x2 x7 x8 false)
def spec_doAll.j1 : Nat → Int → List Int → Int → List (List Int) → Int → Bool → Option ((List (List Int)))
 | 0, _, _, _, _, _, _ => none
 | k + 1, x0, x1, x2, x7, x8, x25 => if x25 = true then ((spec_l1Own.f x1).bind fun t879 => (if t879.length < 17592186044416 then ((some (t879 ++ [x8] : List Int)).bind fun y882 => ((spec_l1Has.f k x1 x8).bind fun t885 => (if t885 = true then (spec_doAll.l0 k x0 x1 x2 x7 (wrap64 (x8 + 1))) else ((spec_doCostas.f k y882).bind fun t886 => (if t886 = true then ((spec_doAll.f k x0 y882 (wrap64 (x2 - (x7.length : Int)))).bind fun t887 => (if x7.length + t887.length < 5864062014805 then (spec_doAll.l0 k x0 x1 x2 (x7 ++ t887) (wrap64 (x8 + 1))) else (none))) else (spec_doAll.l0 k x0 x1 x2 x7 (wrap64 (x8 + 1)))))))) else (none))) else (some x7)
def spec_doAll.f : Nat → Int → List Int → Int → Option ((List (List Int)))
 | 0, _, _, _ => none
 | k + 1, a0, l1, a2 => if (l1.length : Int) = a0 then ((spec_l1Own.f l1).bind fun t873 => (some (([t873] : List (List Int))))) else (spec_doAll.l0 k a0 l1 a2 ([] : List (List Int)) 0)
end
theorem spec_doAll.mono_l : ∀ k, (∀ y0 y1 y2, LeO (spec_doAll.f k y0 y1 y2) (spec_doAll.f (k + 1) y0 y1 y2)) ∧ (∀ y0 y1 y2 y3 y4, LeO (spec_doAll.l0 k y0 y1 y2 y3 y4) (spec_doAll.l0 (k + 1) y0 y1 y2 y3 y4)) ∧ (∀ y0 y1 y2 y3 y4 y5, LeO (spec_doAll.j1 k y0 y1 y2 y3 y4 y5) (spec_doAll.j1 (k + 1) y0 y1 y2 y3 y4 y5))
 | 0 => ⟨fun _ _ _ r h => by simp [spec_doAll.f] at h, fun _ _ _ _ _ r h => by simp [spec_doAll.l0] at h, fun _ _ _ _ _ _ r h => by simp [spec_doAll.j1] at h⟩
 | k + 1 => by
  obtain ⟨ih0, ih1, ih2⟩ := spec_doAll.mono_l k
  refine ⟨?_, ?_, ?_⟩
  ·intro y0 y1 y2
   unfold spec_doAll.f
   repeat' (first | (with_reducible first | exact ih1 _ _ _ _ _ | exact LeO.refl _ | exact LeO.none _ | refine LeO.ite ?_ ?_ | refine LeO.bind ?_ (fun _ => ?_)) | exact ih1 _ _ _ _ _ | exact LeO.none _ | refine LeO.ite ?_ ?_ | refine LeO.bind ?_ (fun _ => ?_))
  ·intro y0 y1 y2 y3 y4
   unfold spec_doAll.l0
   repeat' (first | (with_reducible first | exact ih2 _ _ _ _ _ _ | exact LeO.refl _ | exact LeO.none _ | refine LeO.ite ?_ ?_ | refine LeO.bind ?_ (fun _ => ?_)) | exact ih2 _ _ _ _ _ _ | exact LeO.none _ | refine LeO.ite ?_ ?_ | refine LeO.bind ?_ (fun _ => ?_))
  ·intro y0 y1 y2 y3 y4 y5
   unfold spec_doAll.j1
   repeat' (first | (with_reducible first | exact ih0 _ _ _ | exact ih1 _ _ _ _ _ | exact spec_doCostas.mono _ _ | exact spec_l1Has.mono _ _ _ | exact LeO.refl _ | exact LeO.none _ | refine LeO.ite ?_ ?_ | refine LeO.bind ?_ (fun _ => ?_)) | exact ih0 _ _ _ | exact ih1 _ _ _ _ _ | exact spec_doCostas.mono _ _ | exact spec_l1Has.mono _ _ _ | exact LeO.none _ | refine LeO.ite ?_ ?_ | refine LeO.bind ?_ (fun _ => ?_))
theorem spec_doAll.mono : ∀ a0 a1 a2 k, LeO (spec_doAll.f k a0 a1 a2) (spec_doAll.f (k + 1) a0 a1 a2) := by
 intro a0 a1 a2 k
 obtain ⟨ih0, ih1, ih2⟩ := spec_doAll.mono_l k
 exact ih0 a0 a1 a2
set_option maxHeartbeats 8000000 in
set_option maxRecDepth 100000 in
theorem spec_doAll.calls (k : Nat) : ∀ (a0 : Int) (A1 : Option Addr) (c1 : Nat) (l1 : List Int) (a2 : Int) (r : List (List Int)) (w : World) (hr1 : Kd.C (Kd.int .i64) w A1 l1.length l1) (hc1 : l1.length ≤ c1) (h : spec_doAll.f k a0 l1 a2 = some r),
  Calls Try.prog 126 #[.int .i64 a0, .slice A1 l1.length c1, .int .i64 a2] w fun e w' => ∃ v0_ : Value, e = .returned (v0_) ∧ Kd.N (Kd.slice 3 (Kd.int .i64)) 24 w' w.heap.size (fun k_ => (w.heap.size ≤ k_)) v0_ r ∧ Below w.heap.size w w' := by
 induction k using Nat.strongRecOn with
 | _ k ih =>
 intro a0 A1 c1 l1 a2 r w hr1 hc1 h
 cases k with
 | zero => exact absurd h (by simp [spec_doAll.f])
 | succ k =>
 simp only [spec_doAll.f] at h
 have HR1 := Aside0.mk hr1
 have HC1 := Aside0.mk hc1
 clear hr1 hc1
 have HB := Aside0.mk (Below.refl w.heap.size w)
 have H := h
 unfold spec_doAll.f at H
 clear h
 by_cases c4 : (l1.length : Int) = a0
 ·rw [if_pos c4] at H
  have c4b0 : ((l1.length : Int) == a0) = true := beq_iff_eq.mpr c4
  have c4b1 : ((l1.length : Int) != a0) = false := bne_eq_false_iff_eq.mpr c4
  clear c4
  replace H := Option.bind_eq_some_iff.mp H
  obtain ⟨t873, A50, H⟩ := H
  replace H : (some (([t873] : List (List Int)))) = some r := H
  have A5 := Aside0.mk A50
  clear A50
  obtain ⟨y876, hy876⟩ : ∃ y_ : List (List Int), y_ = (([t873] : List (List Int))) := ⟨_, rfl⟩
  replace H : (some y876) = some r := by first | (rw [hy876]; with_reducible exact H) | (have H2_ := (Option.bind_some _ _).symm.trans H; rw [hy876]; with_reducible exact H2_) | (have H2_ := (Option.bind_some _ _).symm.trans H; with_reducible exact H2_) | with_reducible exact H | (rw [hy876]; exact H) | exact H
  have Ny876 := Aside0.mk hy876
  clear hy876
  obtain rfl := Option.some.inj H
  go_enter Try.func126, Try.ntmps126
  go_wp2_with (first | ((with_reducible refine gate_callee (f := 144) rfl ?_); refine goesA (some 15) Try.func144 #[.slice A1 l1.length c1] ?_; (with_reducible refine (spec_l1Own.calls _ _ l1 t873 _ ?side1 ?side2 A5.out).mono ?_); (case side1 => repeat (first | exact HR1.out | (with_reducible refine Kd.C_alloc ?_ _) | (with_reducible refine Kd.C_drewN ?_ _) | (with_reducible refine Kd.C_drew ?_))); (case side2 => exact HC1.out); rintro e w6 ⟨v874, rfl, ho0, hb⟩; refine ⟨_, rfl, ?_⟩; have HO875 := Aside0.mk (Kd.R_lower (Kd.R_newM (M := fun k_ => (w.heap.size ≤ k_)) ho0 (szB HB) (fun k_ h_ => h_)) (szB HB)); replace HB := upB HB hb; (try clear hb); (try clear hb2); (try clear hk); (try clear hi); (try clear ho0); obtain ⟨Ao7, co7, eo7⟩ := Kd.R_slice HO875.out; subst eo7) | ((with_reducible refine gate_dst (N := 16) rfl ?_); (try (refine gate_guard (by rfl) ?_; dsimp only)); refine N_lit0 (Kd.slice 3 (Kd.int .i64)) 24 ?hg (N' := 16) ?hd (xs := ([t873] : List (List Int))) (inner := [.slice Ao7 t873.length co7]) (ok := (fun k_ => (w.heap.size ≤ k_))) (okp := (fun k_ => (w.heap.size ≤ k_))) ?hr ?hp (fun _ hk => hk) (by exact (show ∀ k_, w6.heap.size ≤ k_ → (fun k_ => (w.heap.size ≤ k_)) k_ from fun k_ hk => (Nat.le_trans (szB HB) hk)) _ (Nat.le_refl _)) (by simp) ?_; (case hd => rfl); (case hg => rfl); (case hr => first | (go_simp; done) | (go_simp; rfl)); (case hp => exact (Reps.one (show Kd.FK (Kd.slice 3 (Kd.int .i64)) _ _ t873 [.slice Ao7 t873.length co7] from (Kd.FK_slice_mk (Kd.R_reads' (Kd.R_mono (ok' := (fun k_ => (w.heap.size ≤ k_))) (HO875.out) (fun k_ hk => hk.1))).2.1 (Kd.R_F (Kd.R_mono (ok' := (fun k_ => (w.heap.size ≤ k_))) (HO875.out) (fun k_ hk => hk.1))))) (Reps.none _ _))); intro v877 w8 ho9 hb hg_ hnew_; clear hg_ hnew_; (first | rw [← Ny876.out] at ho9 | (simp only [Int.reduceToNat] at ho9; rw [← Ny876.out] at ho9)); have HO878 := Aside0.mk (Kd.N_lower ho9 (szB HB)); replace HB := upB HB hb; clear HO875; clear hb ho9))
  go_ret
  exact ⟨_, eqr, by (with_reducible repeat (first | apply Kd.N_alloc | apply Kd.N_drewN | apply Kd.N_drew)); exact HO878.out, atB HB⟩
 ·rw [if_neg c4] at H
  have c4b0 : ((l1.length : Int) == a0) = false := beq_eq_false_iff_ne.mpr c4
  have c4b1 : ((l1.length : Int) != a0) = true := bne_iff_ne.mpr c4
  have H' := Aside0.mk H
  clear H
  go_enter Try.func126, Try.ntmps126
  go_wp2
  go_loopg [7, 8] k (fun kq v7 v8 w' => ∃ (x7_1 : List (List Int)) (x8_1 : Int), v8 = .int .i64 x8_1 ∧ Aside0 (spec_doAll.l0 kq a0 l1 a2 x7_1 x8_1 = some r) ∧ Aside0 (kq ≤ k) ∧ Aside0 (Kd.N (Kd.slice 3 (Kd.int .i64)) 24 w' w.heap.size (fun k_ => (w.heap.size ≤ k_)) v7 x7_1) ∧ Aside0 (Below w.heap.size w w'))
  case atStart => exact ⟨(([] : List (List Int))), (0), eqd, H', ⟨Nat.le_refl _⟩, ⟨by first | exact Kd.S_nil _ _ _ _ _ | exact Kd.N_nil _ _ _ _ _ | exact Kd.V_nil _ _ _ _ _ | exact Kd.Q_nil _ _ _ _ _ | exact Kd.R_nil _ _ _ _ _⟩, ⟨atB HB⟩⟩
  case round =>
   clear H'
   try clear c1
   try clear p2
   try clear c4
   try clear c4b0
   try clear c4b1
   obtain ⟨x7_1, x8_1, rfl, HA, HK1, HO_7, HB⟩ := hrel
   cases gk with
   | zero => exact absurd HA.out (by simp [spec_doAll.l0])
   | succ k1 =>
    have H := HA.out
    clear HA
    simp only [spec_doAll.l0] at H
    have HC10 := Aside0.mk H
    clear H
    go_upto_region 5 with (fail)
    go_cut [25] (fun v25 wc => ∃ (kq : Nat) (x25_9 : Bool), v25 = .bool x25_9 ∧ Aside0 (spec_doAll.j1 kq a0 l1 a2 x7_1 x8_1 x25_9 = some r) ∧ Aside0 (kq ≤ k1) ∧ Aside0 (Kd.N (Kd.slice 3 (Kd.int .i64)) 24 wc w.heap.size (fun k_ => (w.heap.size ≤ k_)) u7 x7_1) ∧ Aside0 (Below w.heap.size w wc))
    case first =>
     have H := HC10.out
     clear HC10
     by_cases c11 : x8_1 < a0
     ·rw [if_pos c11] at H
      have c11b0 : decide (x8_1 < a0) = true := decide_eq_true c11
      clear c11
      (first | rw [c11b0] | (simp only [i64_w, i32_w]; rw [c11b0]) | skip)
      have H' := Aside0.mk H
      clear H
      obtain ⟨Ao12, co12, eo12⟩ := Kd.N_slice HO_7.out
      subst eo12
      go_wp2
      go_meet
      case rel => exact ⟨_, (decide ((x7_1.length : Int) < a2)), eqd, H', ⟨by have := HK1.out; first | omega | exact Nat.le_refl _⟩, ⟨by (with_reducible repeat (first | apply Kd.N_alloc | apply Kd.N_drewN | apply Kd.N_drew)); exact HO_7.out⟩, ⟨atB HB⟩⟩
     ·rw [if_neg c11] at H
      have c11b0 : decide (x8_1 < a0) = false := decide_eq_false c11
      clear c11
      (first | rw [c11b0] | (simp only [i64_w, i32_w]; rw [c11b0]) | skip)
      have H' := Aside0.mk H
      clear H
      go_wp2
      go_meet
      case rel => exact ⟨_, (false), eqd, H', ⟨by have := HK1.out; first | omega | exact Nat.le_refl _⟩, ⟨by (with_reducible repeat (first | apply Kd.N_alloc | apply Kd.N_drewN | apply Kd.N_drew)); exact HO_7.out⟩, ⟨atB HB⟩⟩
    case rest =>
     clear HC10
     try clear c1
     try clear p2
     try clear c4
     try clear c4b0
     try clear c4b1
     try clear c11
     try clear c11b0
     try clear c12
     try clear p2
     obtain ⟨kq, x25_9, rfl, HA, HJ9, HO_7, HB⟩ := hcut
     cases kq with
     | zero => exact absurd HA.out (by simp [spec_doAll.j1])
     | succ kj9 =>
      have H := HA.out
      clear HA
      simp only [spec_doAll.j1] at H
      by_cases c13 : x25_9 = true
      ·subst c13
       have H1 : ((spec_l1Own.f l1).bind fun t879 => (if t879.length < 17592186044416 then ((some (t879 ++ [x8_1] : List Int)).bind fun y882 => ((spec_l1Has.f kj9 l1 x8_1).bind fun t885 => (if t885 = true then (spec_doAll.l0 kj9 a0 l1 a2 x7_1 (wrap64 (x8_1 + 1))) else ((spec_doCostas.f kj9 y882).bind fun t886 => (if t886 = true then ((spec_doAll.f kj9 a0 y882 (wrap64 (a2 - (x7_1.length : Int)))).bind fun t887 => (if x7_1.length + t887.length < 5864062014805 then (spec_doAll.l0 kj9 a0 l1 a2 (x7_1 ++ t887) (wrap64 (x8_1 + 1))) else (none))) else (spec_doAll.l0 kj9 a0 l1 a2 x7_1 (wrap64 (x8_1 + 1)))))))) else (none))) = some r := by rw [if_pos rfl] at H; exact H
       clear H
       have H := H1
       clear H1
       replace H := Option.bind_eq_some_iff.mp H
       obtain ⟨t879, A140, H⟩ := H
       replace H : (if t879.length < 17592186044416 then ((some (t879 ++ [x8_1] : List Int)).bind fun y882 => ((spec_l1Has.f kj9 l1 x8_1).bind fun t885 => (if t885 = true then (spec_doAll.l0 kj9 a0 l1 a2 x7_1 (wrap64 (x8_1 + 1))) else ((spec_doCostas.f kj9 y882).bind fun t886 => (if t886 = true then ((spec_doAll.f kj9 a0 y882 (wrap64 (a2 - (x7_1.length : Int)))).bind fun t887 => (if x7_1.length + t887.length < 5864062014805 then (spec_doAll.l0 kj9 a0 l1 a2 (x7_1 ++ t887) (wrap64 (x8_1 + 1))) else (none))) else (spec_doAll.l0 kj9 a0 l1 a2 x7_1 (wrap64 (x8_1 + 1)))))))) else (none)) = some r := H
       have A14 := Aside0.mk A140
       clear A140
       by_cases c15 : t879.length < 17592186044416
       ·rw [if_pos c15] at H
        have LMc15 := Aside0.mk c15
        clear c15
        obtain ⟨y882, hy882⟩ : ∃ y_ : List Int, y_ = (t879 ++ [x8_1]) := ⟨_, rfl⟩
        replace H : ((spec_l1Has.f kj9 l1 x8_1).bind fun t885 => (if t885 = true then (spec_doAll.l0 kj9 a0 l1 a2 x7_1 (wrap64 (x8_1 + 1))) else ((spec_doCostas.f kj9 y882).bind fun t886 => (if t886 = true then ((spec_doAll.f kj9 a0 y882 (wrap64 (a2 - (x7_1.length : Int)))).bind fun t887 => (if x7_1.length + t887.length < 5864062014805 then (spec_doAll.l0 kj9 a0 l1 a2 (x7_1 ++ t887) (wrap64 (x8_1 + 1))) else (none))) else (spec_doAll.l0 kj9 a0 l1 a2 x7_1 (wrap64 (x8_1 + 1))))))) = some r := by first | (rw [hy882]; with_reducible exact H) | (have H2_ := (Option.bind_some _ _).symm.trans H; rw [hy882]; with_reducible exact H2_) | (have H2_ := (Option.bind_some _ _).symm.trans H; with_reducible exact H2_) | with_reducible exact H | (rw [hy882]; exact H) | exact H
        have Ny882 := Aside0.mk hy882
        clear hy882
        replace H := Option.bind_eq_some_iff.mp H
        obtain ⟨t885, A160, H⟩ := H
        replace H : (if t885 = true then (spec_doAll.l0 kj9 a0 l1 a2 x7_1 (wrap64 (x8_1 + 1))) else ((spec_doCostas.f kj9 y882).bind fun t886 => (if t886 = true then ((spec_doAll.f kj9 a0 y882 (wrap64 (a2 - (x7_1.length : Int)))).bind fun t887 => (if x7_1.length + t887.length < 5864062014805 then (spec_doAll.l0 kj9 a0 l1 a2 (x7_1 ++ t887) (wrap64 (x8_1 + 1))) else (none))) else (spec_doAll.l0 kj9 a0 l1 a2 x7_1 (wrap64 (x8_1 + 1)))))) = some r := H
        have A16 := Aside0.mk A160
        clear A160
        by_cases c17 : t885 = true
        ·subst c17
         have H1 : (spec_doAll.l0 kj9 a0 l1 a2 x7_1 (wrap64 (x8_1 + 1))) = some r := by rw [if_pos rfl] at H; exact H
         clear H
         have H := H1
         clear H1
         have H' := Aside0.mk H
         clear H
         go_wp2_with (first | ((with_reducible refine gate_callee (f := 144) rfl ?_); refine goesA (some 29) Try.func144 #[.slice A1 l1.length c1] ?_; (with_reducible refine (spec_l1Own.calls _ _ l1 t879 _ ?side1 ?side2 A14.out).mono ?_); (case side1 => repeat (first | exact (Kd.C_below HR1.out HB.out) | (with_reducible refine Kd.C_alloc ?_ _) | (with_reducible refine Kd.C_drewN ?_ _) | (with_reducible refine Kd.C_drew ?_))); (case side2 => exact HC1.out); rintro e w18 ⟨v880, rfl, ho0, hb⟩; refine ⟨_, rfl, ?_⟩; have HO881 := Aside0.mk (Kd.R_lower (Kd.R_newM (M := fun k_ => (w.heap.size ≤ k_)) ho0 (szB HB) (fun k_ h_ => h_)) (szB HB)); replace HO_7 := Aside0.mk (Kd.N_elder' (by (with_reducible repeat (first | apply Kd.N_alloc | apply Kd.N_drewN | apply Kd.N_drew)); exact HO_7.out) (Kd.R_base ho0) hb); replace HB := upB HB hb; (try clear hb); (try clear hb2); (try clear hk); (try clear hi); (try clear ho0)) | ((with_reducible refine gate_builtin (b := .append) (xs := #[.tmp 29, .tmp 31]) rfl ?_); (try (refine gate_guard (by rfl) ?_; dsimp only)); at_builtin; refine Kd.R_append (Kd.int .i64) (w0 := w) w.heap.size rfl (.tmp 29) (.tmp 31) 24 3 (.int .i64 0) 8 rfl Try.underlying24 info3 rfl (by decide) (by omega) v880 t879 x8_1 [.int .i64 x8_1] (fun k_ => (w.heap.size ≤ k_)) (fun _ => False) rfl rfl ?aP (fun _ hk => hk.elim) ?aF ?aO ?aB ?aS ?aL ?_; (case aP => exact rfl); (case aB => exact (atB HB)); (case aF => exact (fun k_ hk => (Nat.le_trans (szB HB) hk))); (case aO => exact (by (with_reducible repeat (first | apply Kd.R_alloc | apply Kd.R_drewN | apply Kd.R_drew)); exact Kd.R_mono HO881.out (fun _ hk => hk.1))); (case aS => exact (szB HB)); (case aL => have := LMc15.out; omega); intro v883 w19 ho hb hg hat; rw [← Ny882.out] at ho; have HO884 := Aside0.mk (ho); replace HO_7 := Aside0.mk (Kd.N_afterv (ok := (fun k_ => (w.heap.size ≤ k_))) (by (with_reducible repeat (first | apply Kd.N_alloc | apply Kd.N_drewN | apply Kd.N_drew)); exact HO_7.out) hg hat); replace HB := Aside0.mk (hb); clear HO881; clear ho hb hg hat) | ((with_reducible refine gate_callee (f := 134) rfl ?_); refine goesA (some 35) Try.func134 #[.slice A1 l1.length c1, .int .i64 x8_1] ?_; (with_reducible refine (spec_l1Has.calls kj9 _ _ l1 x8_1 true _ ?side1 ?side2 A16.out).mono ?_); (case side1 => repeat (first | exact (Kd.C_below HR1.out HB.out) | (with_reducible refine Kd.C_alloc ?_ _) | (with_reducible refine Kd.C_drewN ?_ _) | (with_reducible refine Kd.C_drew ?_))); (case side2 => exact HC1.out); rintro e w' ⟨rfl, ⟨nd, rfl⟩⟩; refine ⟨_, rfl, ?_⟩))
         go_roundg kj9
         case measure => have := HK1.out; have := HJ9.out; omega
         case rel => exact ⟨(x7_1), (wrap64 (x8_1 + 1)), eqd, H', ⟨by have := HK1.out; have := HJ9.out; omega⟩, ⟨by (with_reducible repeat (first | apply Kd.N_alloc | apply Kd.N_drewN | apply Kd.N_drew)); exact Kd.N_mono HO_7.out (fun _ hk => hk.1)⟩, ⟨atB HB⟩⟩
        ·replace c17 := Bool.eq_false_iff.mpr c17
         subst c17
         have H1 : ((spec_doCostas.f kj9 y882).bind fun t886 => (if t886 = true then ((spec_doAll.f kj9 a0 y882 (wrap64 (a2 - (x7_1.length : Int)))).bind fun t887 => (if x7_1.length + t887.length < 5864062014805 then (spec_doAll.l0 kj9 a0 l1 a2 (x7_1 ++ t887) (wrap64 (x8_1 + 1))) else (none))) else (spec_doAll.l0 kj9 a0 l1 a2 x7_1 (wrap64 (x8_1 + 1))))) = some r := by rw [if_neg (show ¬ (false = true) by decide)] at H; exact H
         clear H
         have H := H1
         clear H1
         replace H := Option.bind_eq_some_iff.mp H
         obtain ⟨t886, A200, H⟩ := H
         replace H : (if t886 = true then ((spec_doAll.f kj9 a0 y882 (wrap64 (a2 - (x7_1.length : Int)))).bind fun t887 => (if x7_1.length + t887.length < 5864062014805 then (spec_doAll.l0 kj9 a0 l1 a2 (x7_1 ++ t887) (wrap64 (x8_1 + 1))) else (none))) else (spec_doAll.l0 kj9 a0 l1 a2 x7_1 (wrap64 (x8_1 + 1)))) = some r := H
         have A20 := Aside0.mk A200
         clear A200
         by_cases c21 : t886 = true
         ·subst c21
          have H1 : ((spec_doAll.f kj9 a0 y882 (wrap64 (a2 - (x7_1.length : Int)))).bind fun t887 => (if x7_1.length + t887.length < 5864062014805 then (spec_doAll.l0 kj9 a0 l1 a2 (x7_1 ++ t887) (wrap64 (x8_1 + 1))) else (none))) = some r := by rw [if_pos rfl] at H; exact H
          clear H
          have H := H1
          clear H1
          replace H := Option.bind_eq_some_iff.mp H
          obtain ⟨t887, A220, H⟩ := H
          replace H : (if x7_1.length + t887.length < 5864062014805 then (spec_doAll.l0 kj9 a0 l1 a2 (x7_1 ++ t887) (wrap64 (x8_1 + 1))) else (none)) = some r := H
          have A22 := Aside0.mk A220
          clear A220
          by_cases c23 : x7_1.length + t887.length < 5864062014805
          ·rw [if_pos c23] at H
           have LMc23 := Aside0.mk c23
           clear c23
           obtain ⟨y890, hy890⟩ : ∃ y_ : List (List Int), y_ = (x7_1 ++ t887) := ⟨_, rfl⟩
           replace H : (spec_doAll.l0 kj9 a0 l1 a2 y890 (wrap64 (x8_1 + 1))) = some r := by first | (rw [hy890]; with_reducible exact H) | (have H2_ := (Option.bind_some _ _).symm.trans H; rw [hy890]; with_reducible exact H2_) | (have H2_ := (Option.bind_some _ _).symm.trans H; with_reducible exact H2_) | with_reducible exact H | (rw [hy890]; exact H) | exact H
           have Ny890 := Aside0.mk hy890
           clear hy890
           have H' := Aside0.mk H
           clear H
           go_wp2_with (first | ((with_reducible refine gate_callee (f := 144) rfl ?_); refine goesA (some 29) Try.func144 #[.slice A1 l1.length c1] ?_; (with_reducible refine (spec_l1Own.calls _ _ l1 t879 _ ?side1 ?side2 A14.out).mono ?_); (case side1 => repeat (first | exact (Kd.C_below HR1.out HB.out) | (with_reducible refine Kd.C_alloc ?_ _) | (with_reducible refine Kd.C_drewN ?_ _) | (with_reducible refine Kd.C_drew ?_))); (case side2 => exact HC1.out); rintro e w24 ⟨v880, rfl, ho0, hb⟩; refine ⟨_, rfl, ?_⟩; have HO881 := Aside0.mk (Kd.R_lower (Kd.R_newM (M := fun k_ => (w.heap.size ≤ k_)) ho0 (szB HB) (fun k_ h_ => h_)) (szB HB)); replace HO_7 := Aside0.mk (Kd.N_elder' (by (with_reducible repeat (first | apply Kd.N_alloc | apply Kd.N_drewN | apply Kd.N_drew)); exact HO_7.out) (Kd.R_base ho0) hb); replace HB := upB HB hb; (try clear hb); (try clear hb2); (try clear hk); (try clear hi); (try clear ho0)) | ((with_reducible refine gate_builtin (b := .append) (xs := #[.tmp 29, .tmp 31]) rfl ?_); (try (refine gate_guard (by rfl) ?_; dsimp only)); at_builtin; refine Kd.R_append (Kd.int .i64) (w0 := w) w.heap.size rfl (.tmp 29) (.tmp 31) 24 3 (.int .i64 0) 8 rfl Try.underlying24 info3 rfl (by decide) (by omega) v880 t879 x8_1 [.int .i64 x8_1] (fun k_ => (w.heap.size ≤ k_)) (fun _ => False) rfl rfl ?aP (fun _ hk => hk.elim) ?aF ?aO ?aB ?aS ?aL ?_; (case aP => exact rfl); (case aB => exact (atB HB)); (case aF => exact (fun k_ hk => (Nat.le_trans (szB HB) hk))); (case aO => exact (by (with_reducible repeat (first | apply Kd.R_alloc | apply Kd.R_drewN | apply Kd.R_drew)); exact Kd.R_mono HO881.out (fun _ hk => hk.1))); (case aS => exact (szB HB)); (case aL => have := LMc15.out; omega); intro v883 w25 ho hb hg hat; rw [← Ny882.out] at ho; have HO884 := Aside0.mk (ho); replace HO_7 := Aside0.mk (Kd.N_afterv (ok := (fun k_ => (w.heap.size ≤ k_))) (by (with_reducible repeat (first | apply Kd.N_alloc | apply Kd.N_drewN | apply Kd.N_drew)); exact HO_7.out) hg hat); replace HB := Aside0.mk (hb); clear HO881; clear ho hb hg hat) | ((with_reducible refine gate_callee (f := 134) rfl ?_); refine goesA (some 35) Try.func134 #[.slice A1 l1.length c1, .int .i64 x8_1] ?_; (with_reducible refine (spec_l1Has.calls kj9 _ _ l1 x8_1 false _ ?side1 ?side2 A16.out).mono ?_); (case side1 => repeat (first | exact (Kd.C_below HR1.out HB.out) | (with_reducible refine Kd.C_alloc ?_ _) | (with_reducible refine Kd.C_drewN ?_ _) | (with_reducible refine Kd.C_drew ?_))); (case side2 => exact HC1.out); rintro e w' ⟨rfl, ⟨nd, rfl⟩⟩; refine ⟨_, rfl, ?_⟩; obtain ⟨Ao26, co26, eo26⟩ := Kd.R_slice HO884.out; subst eo26) | (go_at_call 118; (with_reducible refine (spec_doCostas.calls kj9 _ _ y882 true _ ?side1 ?side2 A20.out).mono ?_); (case side1 => exact atRC HO884); (case side2 => exact (Kd.R_reads' HO884.out).2.1); rintro e w27 ⟨rfl, hb⟩; replace HO_7 := Aside0.mk (Kd.N_below (by (with_reducible repeat (first | apply Kd.N_alloc | apply Kd.N_drewN | apply Kd.N_drew)); exact HO_7.out) hb); replace HO884 := upR HO884 hb; replace HB := upB HB hb; (try clear hb); (try clear hb2); (try clear hk); (try clear hi); obtain ⟨Ao28, co28, eo28⟩ := Kd.N_slice HO_7.out; subst eo28) | ((with_reducible refine gate_callee (f := 126) rfl ?_); refine goesA (some 48) Try.func126 #[.int .i64 a0, .slice Ao26 y882.length co26, .int .i64 (wrap64 (a2 - (x7_1.length : Int)))] ?_; (with_reducible refine (ih kj9 (by have := HK1.out; have := HJ9.out; omega) a0 _ _ y882 (wrap64 (a2 - (x7_1.length : Int))) t887 _ ?side1 ?side2 A22.out).mono ?_); (case side1 => exact atRC HO884); (case side2 => exact (Kd.R_reads' HO884.out).2.1); rintro e w29 ⟨v888, rfl, ho0, hb⟩; refine ⟨_, rfl, ?_⟩; have HO889 := Aside0.mk (Kd.N_lower (Kd.N_mono (ok' := fun k_ => (w.heap.size ≤ k_) ∧ some k_ ≠ (.slice Ao28 x7_1.length co28 : Value).ownBlock ∧ some k_ ≠ (.slice Ao26 y882.length co26 : Value).ownBlock) ho0 (fun k_ hk_ => ⟨(Nat.le_trans (szB HB) hk_), (Kd.fresh' (Kd.N_lt (by (with_reducible repeat (first | apply Kd.N_alloc | apply Kd.N_drewN | apply Kd.N_drew)); exact HO_7.out)) k_ hk_), (Kd.fresh' (ltR HO884) k_ hk_)⟩)) (szB HB)); replace HO_7 := Aside0.mk (Kd.N_elder' (by (with_reducible repeat (first | apply Kd.N_alloc | apply Kd.N_drewN | apply Kd.N_drew)); exact HO_7.out) (Kd.N_base ho0) hb); replace HO884 := upR HO884 hb; replace HB := upB HB hb; (try clear hb); (try clear hb2); (try clear hk); (try clear hi); (try clear ho0); obtain ⟨Ao31, co31, eo31⟩ := Kd.N_slice HO889.out; subst eo31) | ((with_reducible refine gate_builtin (b := .append) (xs := #[.tmp 41, .tmp 48]) rfl ?_); (try (refine gate_guard (by rfl) ?_; dsimp only)); at_builtin; refine Kd.N_append_rows (Kd.slice 3 (Kd.int .i64)) (w0 := w) w.heap.size rfl (.tmp 41) (.tmp 48) 33 24 (.slice none 0 0) 24 rfl Try.underlying33 info24 rfl (by decide) (by omega) (.slice Ao28 x7_1.length co28) x7_1 t887 _ _ _ (fun k_ => (w.heap.size ≤ k_) ∧ some k_ ≠ (.slice Ao26 y882.length co26 : Value).ownBlock) (fun k_ => ((fun k_ => (w.heap.size ≤ k_) ∧ some k_ ≠ (.slice Ao26 y882.length co26 : Value).ownBlock)) k_ ∧ some k_ ≠ (.slice Ao28 x7_1.length co28 : Value).ownBlock) rfl rfl ?aO ?aR (fun _ hk => hk) ?aF ?aB ?aS ?aL ?_; (case aR => exact (by skip; exact Kd.N_F (Kd.N_mono (ok' := (fun k_ => ((fun k_ => (w.heap.size ≤ k_) ∧ some k_ ≠ (.slice Ao26 y882.length co26 : Value).ownBlock)) k_ ∧ some k_ ≠ (.slice Ao28 x7_1.length co28 : Value).ownBlock)) (HO889.out) (fun k_ hk => ⟨⟨hk.1, hk.2.2⟩, hk.2.1⟩)))); (case aB => exact (atB HB)); (case aF => exact (fun k_ hk => ⟨(Nat.le_trans (szB HB) hk), Kd.fresh' (ltR HO884) k_ hk⟩)); (case aO => exact (by (with_reducible repeat (first | apply Kd.N_alloc | apply Kd.N_drewN | apply Kd.N_drew)); exact Kd.N_mono HO_7.out (fun _ hk => ⟨hk.1.1, hk.1.2⟩))); (case aS => exact (szB HB)); (case aL => have := LMc23.out; omega); intro v891 w30 ho hb hg hat; rw [← Ny890.out] at ho; have HO892 := Aside0.mk (ho); replace HO884 := Aside0.mk (Kd.R_over' (atR HO884) (Kd.N_typed (by (with_reducible repeat (first | apply Kd.N_alloc | apply Kd.N_drewN | apply Kd.N_drew)); exact HO_7.out)) (by decide) hg); replace HO889 := Aside0.mk (Kd.N_afterv (ok := (fun k_ => (w.heap.size ≤ k_) ∧ some k_ ≠ (.slice Ao26 y882.length co26 : Value).ownBlock)) (by (with_reducible repeat (first | apply Kd.N_alloc | apply Kd.N_drewN | apply Kd.N_drew)); exact Kd.N_mono HO889.out (fun _ hk => ⟨⟨hk.1, hk.2.2⟩, hk.2.1⟩)) hg hat); replace HB := Aside0.mk (hb); clear HO_7; clear ho hb hg hat))
           go_roundg kj9
           case measure => have := HK1.out; have := HJ9.out; omega
           case rel => exact ⟨(y890), (wrap64 (x8_1 + 1)), eqd, H', ⟨by have := HK1.out; have := HJ9.out; omega⟩, ⟨by (with_reducible repeat (first | apply Kd.N_alloc | apply Kd.N_drewN | apply Kd.N_drew)); exact Kd.N_mono HO892.out (fun _ hk => hk.1)⟩, ⟨atB HB⟩⟩
          ·rw [if_neg c23] at H
           exact absurd H (by simp)
         ·replace c21 := Bool.eq_false_iff.mpr c21
          subst c21
          have H1 : (spec_doAll.l0 kj9 a0 l1 a2 x7_1 (wrap64 (x8_1 + 1))) = some r := by rw [if_neg (show ¬ (false = true) by decide)] at H; exact H
          clear H
          have H := H1
          clear H1
          have H' := Aside0.mk H
          clear H
          go_wp2_with (first | ((with_reducible refine gate_callee (f := 144) rfl ?_); refine goesA (some 29) Try.func144 #[.slice A1 l1.length c1] ?_; (with_reducible refine (spec_l1Own.calls _ _ l1 t879 _ ?side1 ?side2 A14.out).mono ?_); (case side1 => repeat (first | exact (Kd.C_below HR1.out HB.out) | (with_reducible refine Kd.C_alloc ?_ _) | (with_reducible refine Kd.C_drewN ?_ _) | (with_reducible refine Kd.C_drew ?_))); (case side2 => exact HC1.out); rintro e w32 ⟨v880, rfl, ho0, hb⟩; refine ⟨_, rfl, ?_⟩; have HO881 := Aside0.mk (Kd.R_lower (Kd.R_newM (M := fun k_ => (w.heap.size ≤ k_)) ho0 (szB HB) (fun k_ h_ => h_)) (szB HB)); replace HO_7 := Aside0.mk (Kd.N_elder' (by (with_reducible repeat (first | apply Kd.N_alloc | apply Kd.N_drewN | apply Kd.N_drew)); exact HO_7.out) (Kd.R_base ho0) hb); replace HB := upB HB hb; (try clear hb); (try clear hb2); (try clear hk); (try clear hi); (try clear ho0)) | ((with_reducible refine gate_builtin (b := .append) (xs := #[.tmp 29, .tmp 31]) rfl ?_); (try (refine gate_guard (by rfl) ?_; dsimp only)); at_builtin; refine Kd.R_append (Kd.int .i64) (w0 := w) w.heap.size rfl (.tmp 29) (.tmp 31) 24 3 (.int .i64 0) 8 rfl Try.underlying24 info3 rfl (by decide) (by omega) v880 t879 x8_1 [.int .i64 x8_1] (fun k_ => (w.heap.size ≤ k_)) (fun _ => False) rfl rfl ?aP (fun _ hk => hk.elim) ?aF ?aO ?aB ?aS ?aL ?_; (case aP => exact rfl); (case aB => exact (atB HB)); (case aF => exact (fun k_ hk => (Nat.le_trans (szB HB) hk))); (case aO => exact (by (with_reducible repeat (first | apply Kd.R_alloc | apply Kd.R_drewN | apply Kd.R_drew)); exact Kd.R_mono HO881.out (fun _ hk => hk.1))); (case aS => exact (szB HB)); (case aL => have := LMc15.out; omega); intro v883 w33 ho hb hg hat; rw [← Ny882.out] at ho; have HO884 := Aside0.mk (ho); replace HO_7 := Aside0.mk (Kd.N_afterv (ok := (fun k_ => (w.heap.size ≤ k_))) (by (with_reducible repeat (first | apply Kd.N_alloc | apply Kd.N_drewN | apply Kd.N_drew)); exact HO_7.out) hg hat); replace HB := Aside0.mk (hb); clear HO881; clear ho hb hg hat) | ((with_reducible refine gate_callee (f := 134) rfl ?_); refine goesA (some 35) Try.func134 #[.slice A1 l1.length c1, .int .i64 x8_1] ?_; (with_reducible refine (spec_l1Has.calls kj9 _ _ l1 x8_1 false _ ?side1 ?side2 A16.out).mono ?_); (case side1 => repeat (first | exact (Kd.C_below HR1.out HB.out) | (with_reducible refine Kd.C_alloc ?_ _) | (with_reducible refine Kd.C_drewN ?_ _) | (with_reducible refine Kd.C_drew ?_))); (case side2 => exact HC1.out); rintro e w' ⟨rfl, ⟨nd, rfl⟩⟩; refine ⟨_, rfl, ?_⟩; obtain ⟨Ao34, co34, eo34⟩ := Kd.R_slice HO884.out; subst eo34) | (go_at_call 118; (with_reducible refine (spec_doCostas.calls kj9 _ _ y882 false _ ?side1 ?side2 A20.out).mono ?_); (case side1 => exact atRC HO884); (case side2 => exact (Kd.R_reads' HO884.out).2.1); rintro e w35 ⟨rfl, hb⟩; replace HO_7 := Aside0.mk (Kd.N_below (by (with_reducible repeat (first | apply Kd.N_alloc | apply Kd.N_drewN | apply Kd.N_drew)); exact HO_7.out) hb); replace HO884 := upR HO884 hb; replace HB := upB HB hb; (try clear hb); (try clear hb2); (try clear hk); (try clear hi)))
          go_roundg kj9
          case measure => have := HK1.out; have := HJ9.out; omega
          case rel => exact ⟨(x7_1), (wrap64 (x8_1 + 1)), eqd, H', ⟨by have := HK1.out; have := HJ9.out; omega⟩, ⟨by (with_reducible repeat (first | apply Kd.N_alloc | apply Kd.N_drewN | apply Kd.N_drew)); exact Kd.N_mono HO_7.out (fun _ hk => hk.1)⟩, ⟨atB HB⟩⟩
       ·rw [if_neg c15] at H
        exact absurd H (by simp)
      ·replace c13 := Bool.eq_false_iff.mpr c13
       subst c13
       have H1 : (some x7_1) = some r := by rw [if_neg (show ¬ (false = true) by decide)] at H; exact H
       clear H
       have H := H1
       clear H1
       obtain rfl := Option.some.inj H
       go_wp2
       go_ret
       exact ⟨_, eqr, by (with_reducible repeat (first | apply Kd.N_alloc | apply Kd.N_drewN | apply Kd.N_drew)); exact HO_7.out, atB HB⟩
noncomputable def spec_doAll.F (a0 : Int) (l1 : List Int) (a2 : Int) : Option ((List (List Int))) := lim fun k => spec_doAll.f k a0 l1 a2
theorem spec_doAll.F_lim (a0 : Int) (l1 : List Int) (a2 : Int) : Lim (fun k => spec_doAll.f k a0 l1 a2) (spec_doAll.F a0 l1 a2) := Lim.of fun k => (spec_doAll.mono_l k).1 a0 l1 a2
/-! ### spec_FirstCostas: function 76 -/
def spec_FirstCostas.f (k : Nat) (a0 : Int) : Option (List Int × Bool) := (spec_l1In.f a0 1 9).bind fun t997 => (if t997 = true then ((spec_doAll.f k a0 ([] : List Int) 1).bind fun t998 => (if 0 < (t998.length : Int) then (some (rd_L2 t998 0, true)) else (none))) else (some (([] : List Int), false)))
theorem spec_FirstCostas.mono : ∀ a0 k, LeO (spec_FirstCostas.f k a0) (spec_FirstCostas.f (k + 1) a0) := by
 intro a0 k
 unfold spec_FirstCostas.f
 repeat' (first | (with_reducible first | exact spec_doAll.mono _ _ _ _ | exact LeO.refl _ | exact LeO.none _ | refine LeO.ite ?_ ?_ | refine LeO.bind ?_ (fun _ => ?_)) | exact spec_doAll.mono _ _ _ _ | exact LeO.none _ | refine LeO.ite ?_ ?_ | refine LeO.bind ?_ (fun _ => ?_))
set_option maxHeartbeats 8000000 in
set_option maxRecDepth 100000 in
theorem spec_FirstCostas.calls (k : Nat) (a0 : Int) (r1 : List Int) (r2 : Bool) (w : World) (h : spec_FirstCostas.f k a0 = some (r1, r2)) :
  Calls Try.prog 76 #[.int .i64 a0] w fun e w' => ∃ v0_ : Value, e = .returned (.tuple #[v0_, .bool r2]) ∧ Kd.V (Kd.int .i64) 3 w' w.heap.size (fun k_ => (w.heap.size ≤ k_)) v0_ r1 ∧ Below w.heap.size w w' := by
 have HB := Aside0.mk (Below.refl w.heap.size w)
 have H := h
 unfold spec_FirstCostas.f at H
 clear h
 replace H := Option.bind_eq_some_iff.mp H
 obtain ⟨t997, A20, H⟩ := H
 replace H : (if t997 = true then ((spec_doAll.f k a0 ([] : List Int) 1).bind fun t998 => (if 0 < (t998.length : Int) then (some (rd_L2 t998 0, true)) else (none))) else (some (([] : List Int), false))) = some (r1, r2) := H
 have A2 := Aside0.mk A20
 clear A20
 by_cases c3 : t997 = true
 ·subst c3
  have H1 : ((spec_doAll.f k a0 ([] : List Int) 1).bind fun t998 => (if 0 < (t998.length : Int) then (some (rd_L2 t998 0, true)) else (none))) = some (r1, r2) := by rw [if_pos rfl] at H; exact H
  clear H
  have H := H1
  clear H1
  replace H := Option.bind_eq_some_iff.mp H
  obtain ⟨t998, A40, H⟩ := H
  replace H : (if 0 < (t998.length : Int) then (some (rd_L2 t998 0, true)) else (none)) = some (r1, r2) := H
  have A4 := Aside0.mk A40
  clear A40
  by_cases c5 : 0 < (t998.length : Int)
  ·rw [if_pos c5] at H
   have c5b0 : decide (0 < (t998.length : Int)) = true := decide_eq_true c5
   have c5b1 : decide (0 < t998.length) = true := decide_eq_true (by omega)
   clear c5
   simp only [Option.some.injEq, Prod.mk.injEq] at H
   obtain ⟨rfl, rfl⟩ := H
   go_enter Try.func76, Try.ntmps76
   go_wp2_with (first | ((with_reducible refine gate_callee (f := 102) rfl ?_); refine goesA (some 5) Try.func102 #[.int .i64 a0, .int .i64 1, .int .i64 9] ?_; (with_reducible refine (spec_l1In.calls a0 1 9 true _ A2.out).mono ?_); rintro e w' ⟨rfl, ⟨nd, rfl⟩⟩; refine ⟨_, rfl, ?_⟩) | ((with_reducible refine gate_callee (f := 126) rfl ?_); refine goesA (some 8) Try.func126 #[.int .i64 a0, .slice none 0 0, .int .i64 1] ?_; (refine (spec_doAll.calls k a0 _ _ ([] : List Int) 1 t998 _ ?side1 ?side2 A4.out).mono ?_); (case side1 => exact Kd.C_nil _ _); (case side2 => exact Nat.le_refl _); rintro e w6 ⟨v999, rfl, ho0, hb⟩; refine ⟨_, rfl, ?_⟩; have HO1000 := Aside0.mk (Kd.N_lower (Kd.N_mono (ok' := fun k_ => (w.heap.size ≤ k_)) ho0 (fun k_ hk_ => (Nat.le_trans (szB HB) hk_))) (szB HB)); replace HB := upB HB hb; (try clear hb); (try clear hb2); (try clear hk); (try clear hi); (try clear ho0); obtain ⟨Ao7, co7, eo7⟩ := Kd.N_slice HO1000.out; subst eo7; have p1001 : 0 ≤ (0 : Int) := (by omega); have q1001 : 0 < (t998.length : Int) := ofd; obtain ⟨ad1001, A1001_0, c1001_0, e1001, hx1001_0, hl1001_0, hi1001_0⟩ := at_L2 (Kd.N_reads' HO1000.out).2.2 0 p1001 q1001; cases e1001; obtain ⟨ce1001, hce1001, hMe1001, hcc1001⟩ := Kd.N_get HO1000.out [] 0 p1001 (by first | exact q1001 | exact of_decide_eq_true (by first | (with_reducible assumption) | assumption) | (have e_ := (Kd.N_reads' HO1000.out).1; omega)); obtain ⟨ua1001_0, uc1001_0, rfl, ul1001_0, ge1001_0⟩ := Kd.FK_slice_open hMe1001; have hv1001_0 := hcc1001 0 _ rfl; rw [Nat.add_zero, show ((Kd.slice 3 (Kd.int .i64))).sz = 1 from rfl, Nat.mul_one] at hv1001_0; replace hv1001_0 := Option.some.inj (hv1001_0.symm.trans hx1001_0); injection hv1001_0 with hva_ hvn_ hvc_; rw [hva_] at ge1001_0; rw [hvc_] at ul1001_0; have HL1001_0 := Aside0.mk (show Kd.V (Kd.int .i64) 3 _ w.heap.size _ _ (rd_L2 t998 0) from Kd.V_mk ul1001_0 ge1001_0); clear hva_ hvn_ hvc_ ge1001_0 ul1001_0; clear hcc1001 hce1001; have qi1001 : (0 < t998.length) = True := eq_true (by omega); (try rw [show ((0 : Int)).toNat = 0 from rfl] at hx1001_0); (try rw [Addr.add_zero'] at hx1001_0); have HR1001_0 := Aside0.mk hi1001_0; have HC1001_0 := Aside0.mk hl1001_0; clear hi1001_0 hl1001_0; replace p1001 := eq_true p1001; replace q1001 := eq_true q1001))
   go_ret2
   exact ⟨_, eqr, by (with_reducible repeat (first | apply Kd.V_alloc | apply Kd.V_drewN | apply Kd.V_drew)); exact Kd.V_mono HL1001_0.out (fun _ hk => hk.1), atB HB⟩
  ·rw [if_neg c5] at H
   exact absurd H (by simp)
 ·replace c3 := Bool.eq_false_iff.mpr c3
  subst c3
  have H1 : (some (([] : List Int), false)) = some (r1, r2) := by rw [if_neg (show ¬ (false = true) by decide)] at H; exact H
  clear H
  have H := H1
  clear H1
  simp only [Option.some.injEq, Prod.mk.injEq] at H
  obtain ⟨rfl, rfl⟩ := H
  go_enter Try.func76, Try.ntmps76
  go_wp2_with (first | ((with_reducible refine gate_callee (f := 102) rfl ?_); refine goesA (some 5) Try.func102 #[.int .i64 a0, .int .i64 1, .int .i64 9] ?_; (with_reducible refine (spec_l1In.calls a0 1 9 false _ A2.out).mono ?_); rintro e w' ⟨rfl, ⟨nd, rfl⟩⟩; refine ⟨_, rfl, ?_⟩))
  go_ret2
  exact ⟨_, eqr, (by first | exact Kd.V_nil _ _ _ _ _ | exact Kd.R_V (Kd.R_nil _ _ _ _ _) | exact Kd.R_V (by first | exact Kd.R_nil _ _ _ _ _ | exact Kd.N_nil _ _ _ _ _ | exact Kd.V_nil _ _ _ _ _ | exact Kd.Q_nil _ _ _ _ _ | exact Kd.S_nil _ _ _ _ _)), atB HB⟩
noncomputable def spec_FirstCostas.F (a0 : Int) : Option (List Int × Bool) := lim fun k => spec_FirstCostas.f k a0
theorem spec_FirstCostas.F_lim (a0 : Int) : Lim (fun k => spec_FirstCostas.f k a0) (spec_FirstCostas.F a0) := Lim.of fun k => spec_FirstCostas.mono a0 k
/-! ### laws_big: function 6 -/
def laws_big.f (l0 : List Int) (l1 : List Int) : Option (Bool) := if (l0.length : Int) > 1048576 then (some true) else (some (decide ((l1.length : Int) > (wrap64 (1048576 - (l0.length : Int))))))
set_option maxHeartbeats 8000000 in
set_option maxRecDepth 100000 in
theorem laws_big.calls (A0 : Option Addr) (c0 : Nat) (l0 : List Int) (A1 : Option Addr) (c1 : Nat) (l1 : List Int) (r : Bool) (w : World) (hr0 : Kd.C (Kd.int .u8) w A0 l0.length l0) (hc0 : l0.length ≤ c0) (hr1 : Kd.C (Kd.int .u8) w A1 l1.length l1) (hc1 : l1.length ≤ c1) (h : laws_big.f l0 l1 = some r) :
  Calls Try.prog 6 #[.slice A0 l0.length c0, .slice A1 l1.length c1] w fun e w' => e = .returned (.bool r) ∧ Drawn0 w w' := by
 have HR0 := Aside0.mk hr0
 have HC0 := Aside0.mk hc0
 clear hr0 hc0
 have HR1 := Aside0.mk hr1
 have HC1 := Aside0.mk hc1
 clear hr1 hc1
 have H := h
 unfold laws_big.f at H
 clear h
 by_cases c3 : (l0.length : Int) > 1048576
 ·rw [if_pos c3] at H
  have c3b0 : decide (1048576 < (l0.length : Int)) = true := decide_eq_true c3
  have c3b1 : decide (1048576 < l0.length) = true := decide_eq_true (by omega)
  clear c3
  obtain rfl := Option.some.inj H
  go_enter Try.func6, Try.ntmps6
  go_wp2
  go_ret
  exact ⟨by first | rfl | (simp; done) | (simp [*]; done), by repeat (first | exact Drawn0.refl _ | apply Drawn0.step)⟩
 ·rw [if_neg c3] at H
  have c3b0 : decide (1048576 < (l0.length : Int)) = false := decide_eq_false c3
  have c3b1 : decide (1048576 < l0.length) = false := decide_eq_false (by omega)
  clear c3
  obtain rfl := Option.some.inj H
  go_enter Try.func6, Try.ntmps6
  go_wp2
  go_ret
  exact ⟨by first | rfl | (simp; done) | (simp [*]; done), by repeat (first | exact Drawn0.refl _ | apply Drawn0.step)⟩
/-! ### slices_Equal_int_int: function 127 -/
def slices_Equal_int_int.l0 : Nat → List Int → List Int → Int → Int → Option (Bool)
 | 0, _, _, _, _ => none
 | k + 1, x0, x1, x12, x13 => if x13 < x12 then (if 0 ≤ x13 then (if x13 < (x0.length : Int) then (if x13 < (x1.length : Int) then (if (rd x0 x13) = (rd x1 x13) then (slices_Equal_int_int.l0 k x0 x1 x12 (wrap64 (x13 + 1))) else (some false)) else (none)) else (none)) else (none)) else (some true)
def slices_Equal_int_int.f (k : Nat) (l0 : List Int) (l1 : List Int) : Option (Bool) := if (l0.length : Int) = (l1.length : Int) then (slices_Equal_int_int.l0 k l0 l1 (l0.length : Int) 0) else (some false)
theorem slices_Equal_int_int.mono_l : ∀ k, (∀ y0 y1 y2 y3, LeO (slices_Equal_int_int.l0 k y0 y1 y2 y3) (slices_Equal_int_int.l0 (k + 1) y0 y1 y2 y3))
 | 0 => fun _ _ _ _ r h => by simp [slices_Equal_int_int.l0] at h
 | k + 1 => by
  have ih0 := slices_Equal_int_int.mono_l k
  ·intro y0 y1 y2 y3
   unfold slices_Equal_int_int.l0
   repeat' (first | (with_reducible first | exact ih0 _ _ _ _ | exact LeO.refl _ | exact LeO.none _ | refine LeO.ite ?_ ?_ | refine LeO.bind ?_ (fun _ => ?_)) | exact ih0 _ _ _ _ | exact LeO.none _ | refine LeO.ite ?_ ?_ | refine LeO.bind ?_ (fun _ => ?_))
theorem slices_Equal_int_int.mono : ∀ a0 a1 k, LeO (slices_Equal_int_int.f k a0 a1) (slices_Equal_int_int.f (k + 1) a0 a1) := by
 intro a0 a1 k
 have ih0 := slices_Equal_int_int.mono_l k
 unfold slices_Equal_int_int.f
 repeat' (first | (with_reducible first | exact ih0 _ _ _ _ | exact LeO.refl _ | exact LeO.none _ | refine LeO.ite ?_ ?_ | refine LeO.bind ?_ (fun _ => ?_)) | exact ih0 _ _ _ _ | exact LeO.none _ | refine LeO.ite ?_ ?_ | refine LeO.bind ?_ (fun _ => ?_))
set_option maxHeartbeats 8000000 in
set_option maxRecDepth 100000 in
theorem slices_Equal_int_int.calls (k : Nat) (A0 : Option Addr) (c0 : Nat) (l0 : List Int) (A1 : Option Addr) (c1 : Nat) (l1 : List Int) (r : Bool) (w : World) (hr0 : Kd.C (Kd.int .i64) w A0 l0.length l0) (hc0 : l0.length ≤ c0) (hr1 : Kd.C (Kd.int .i64) w A1 l1.length l1) (hc1 : l1.length ≤ c1) (h : slices_Equal_int_int.f k l0 l1 = some r) :
  Calls Try.prog 127 #[.slice A0 l0.length c0, .slice A1 l1.length c1] w fun e w' => e = .returned (.bool r) ∧ Drawn0 w w' := by
 have HR0 := Aside0.mk hr0
 have HC0 := Aside0.mk hc0
 clear hr0 hc0
 have HR1 := Aside0.mk hr1
 have HC1 := Aside0.mk hc1
 clear hr1 hc1
 have H := h
 unfold slices_Equal_int_int.f at H
 clear h
 by_cases c3 : (l0.length : Int) = (l1.length : Int)
 ·rw [if_pos c3] at H
  have c3b0 : ((l0.length : Int) == (l1.length : Int)) = true := beq_iff_eq.mpr c3
  have c3b1 : ((l0.length : Int) != (l1.length : Int)) = false := bne_eq_false_iff_eq.mpr c3
  have c3b2 : (l0.length == l1.length) = true := by first | simpa using c3 | (simp at c3 ⊢; omega)
  clear c3
  have H' := Aside0.mk H
  clear H
  go_enter Try.func127, Try.ntmps127
  go_wp2
  repeat (go_quiet (fail); try go_wp2)
  go_loopg [13] k (fun kq v13 w' => ∃ (x13_1 : Int), v13 = .int .i64 x13_1 ∧ Aside0 (slices_Equal_int_int.l0 kq l0 l1 (l0.length : Int) x13_1 = some r) ∧ Aside0 (kq ≤ k) ∧ Drawn0 w w')
  case atStart => exact ⟨(0), eqd, H', ⟨Nat.le_refl _⟩, by repeat (first | exact Drawn0.refl _ | apply Drawn0.step)⟩
  case round =>
   clear H'
   try clear c1
   try clear p2
   try clear c3
   try clear c3b0
   try clear c3b1
   try clear c3b2
   obtain ⟨x13_1, rfl, HA, HK1, ⟨m1, rfl⟩⟩ := hrel
   cases gk with
   | zero => exact absurd HA.out (by simp [slices_Equal_int_int.l0])
   | succ k1 =>
    have H := HA.out
    clear HA
    simp only [slices_Equal_int_int.l0] at H
    by_cases c4 : x13_1 < (l0.length : Int)
    ·rw [if_pos c4] at H
     have c4b0 : decide (x13_1 < (l0.length : Int)) = true := decide_eq_true c4
     clear c4
     by_cases c5 : 0 ≤ x13_1
     ·rw [if_pos c5] at H
      have c5b0 : decide (0 ≤ x13_1) = true := decide_eq_true c5
      clear c5
      by_cases c6 : x13_1 < (l0.length : Int)
      ·rw [if_pos c6] at H
       have c6b0 : decide (x13_1 < (l0.length : Int)) = true := decide_eq_true c6
       clear c6
       by_cases c7 : x13_1 < (l1.length : Int)
       ·rw [if_pos c7] at H
        have c7b0 : decide (x13_1 < (l1.length : Int)) = true := decide_eq_true c7
        clear c7
        by_cases c8 : (rd l0 x13_1) = (rd l1 x13_1)
        ·rw [if_pos c8] at H
         have c8b0 : ((rd l0 x13_1) == (rd l1 x13_1)) = true := beq_iff_eq.mpr c8
         have c8b1 : ((rd l0 x13_1) != (rd l1 x13_1)) = false := bne_eq_false_iff_eq.mpr c8
         clear c8
         have H' := Aside0.mk H
         clear H
         have p905 : 0 ≤ (x13_1 : Int) := ofd
         have q905 : x13_1 < (l0.length : Int) := ofd
         obtain ⟨ad905, e905, hx905_0⟩ := Kd.at_int HR0.out x13_1 p905 q905
         cases e905
         replace p905 := eq_true p905
         replace q905 := eq_true q905
         have p906 : 0 ≤ (x13_1 : Int) := ofd
         have q906 : x13_1 < (l1.length : Int) := ofd
         obtain ⟨ad906, e906, hx906_0⟩ := Kd.at_int HR1.out x13_1 p906 q906
         cases e906
         replace p906 := eq_true p906
         replace q906 := eq_true q906
         go_wp2
         repeat (go_quiet (fail); try go_wp2)
         go_roundg k1
         case measure => have := HK1.out; omega
         case rel => exact ⟨(wrap64 (x13_1 + 1)), eqd, H', ⟨by have := HK1.out; omega⟩, by repeat (first | exact Drawn0.refl _ | apply Drawn0.step)⟩
        ·rw [if_neg c8] at H
         have c8b0 : ((rd l0 x13_1) == (rd l1 x13_1)) = false := beq_eq_false_iff_ne.mpr c8
         have c8b1 : ((rd l0 x13_1) != (rd l1 x13_1)) = true := bne_iff_ne.mpr c8
         obtain rfl := Option.some.inj H
         have p905 : 0 ≤ (x13_1 : Int) := ofd
         have q905 : x13_1 < (l0.length : Int) := ofd
         obtain ⟨ad905, e905, hx905_0⟩ := Kd.at_int HR0.out x13_1 p905 q905
         cases e905
         replace p905 := eq_true p905
         replace q905 := eq_true q905
         have p906 : 0 ≤ (x13_1 : Int) := ofd
         have q906 : x13_1 < (l1.length : Int) := ofd
         obtain ⟨ad906, e906, hx906_0⟩ := Kd.at_int HR1.out x13_1 p906 q906
         cases e906
         replace p906 := eq_true p906
         replace q906 := eq_true q906
         go_wp2
         repeat (go_quiet (fail); try go_wp2)
         go_ret
         exact ⟨by first | rfl | (simp; done) | (simp [*]; done), by repeat (first | exact Drawn0.refl _ | apply Drawn0.step)⟩
       ·rw [if_neg c7] at H
        exact absurd H (by simp)
      ·rw [if_neg c6] at H
       exact absurd H (by simp)
     ·rw [if_neg c5] at H
      exact absurd H (by simp)
    ·rw [if_neg c4] at H
     have c4b0 : decide (x13_1 < (l0.length : Int)) = false := decide_eq_false c4
     clear c4
     obtain rfl := Option.some.inj H
     go_wp2
     repeat (go_quiet (fail); try go_wp2)
     go_ret
     exact ⟨by first | rfl | (simp; done) | (simp [*]; done), by repeat (first | exact Drawn0.refl _ | apply Drawn0.step)⟩
 ·rw [if_neg c3] at H
  have c3b0 : ((l0.length : Int) == (l1.length : Int)) = false := beq_eq_false_iff_ne.mpr c3
  have c3b1 : ((l0.length : Int) != (l1.length : Int)) = true := bne_iff_ne.mpr c3
  have c3b2 : (l0.length == l1.length) = false := by first | simpa using c3 | (simp at c3 ⊢; omega)
  obtain rfl := Option.some.inj H
  go_enter Try.func127, Try.ntmps127
  go_wp2
  repeat (go_quiet (fail); try go_wp2)
  go_ret
  exact ⟨by first | rfl | (simp; done) | (simp [*]; done), by repeat (first | exact Drawn0.refl _ | apply Drawn0.step)⟩
noncomputable def slices_Equal_int_int.L0 (x0 : List Int) (x1 : List Int) (x12 : Int) (x13 : Int) : Option (Bool) := lim fun k => slices_Equal_int_int.l0 k x0 x1 x12 x13
theorem slices_Equal_int_int.L0_lim (x0 : List Int) (x1 : List Int) (x12 : Int) (x13 : Int) : Lim (fun k => slices_Equal_int_int.l0 k x0 x1 x12 x13) (slices_Equal_int_int.L0 x0 x1 x12 x13) := Lim.of fun k => (slices_Equal_int_int.mono_l k) x0 x1 x12 x13
noncomputable def slices_Equal_int_int.F (l0 : List Int) (l1 : List Int) : Option (Bool) := lim fun k => slices_Equal_int_int.f k l0 l1
theorem slices_Equal_int_int.F_lim (l0 : List Int) (l1 : List Int) : Lim (fun k => slices_Equal_int_int.f k l0 l1) (slices_Equal_int_int.F l0 l1) := Lim.of fun k => slices_Equal_int_int.mono l0 l1 k
theorem slices_Equal_int_int.L0_eq (x0 : List Int) (x1 : List Int) (x12 : Int) (x13 : Int) : slices_Equal_int_int.L0 x0 x1 x12 x13 = (if x13 < x12 then (if 0 ≤ x13 then (if x13 < (x0.length : Int) then (if x13 < (x1.length : Int) then (if (rd x0 x13) = (rd x1 x13) then (slices_Equal_int_int.L0 x0 x1 x12 (wrap64 (x13 + 1))) else (some false)) else (none)) else (none)) else (none)) else (some true)) :=
 Lim.step (f := fun k => slices_Equal_int_int.l0 (k + 1) x0 x1 x12 x13) (slices_Equal_int_int.L0_lim x0 x1 x12 x13) (fun _ => rfl) (by
  simp only [slices_Equal_int_int.l0]
  repeat' (first | (with_reducible first | exact Lim.const _ | exact slices_Equal_int_int.L0_lim _ _ _ _ | refine Lim.ite ?_ ?_ | refine Lim.bind ?_ (fun _ => ?_))))
theorem slices_Equal_int_int.F_eq (l0 : List Int) (l1 : List Int) : slices_Equal_int_int.F l0 l1 = (if (l0.length : Int) = (l1.length : Int) then (slices_Equal_int_int.L0 l0 l1 (l0.length : Int) 0) else (some false)) :=
 Lim.unique (slices_Equal_int_int.F_lim l0 l1) (by
  unfold slices_Equal_int_int.f
  repeat' (first | (with_reducible first | exact Lim.const _ | exact slices_Equal_int_int.L0_lim _ _ _ _ | refine Lim.ite ?_ ?_ | refine Lim.bind ?_ (fun _ => ?_))))
end Go.Proofs.Ytnhnpplccfojeaa.Fn
