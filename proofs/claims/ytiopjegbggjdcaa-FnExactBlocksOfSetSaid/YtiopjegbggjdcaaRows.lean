/-
  No cell of these rows narrows 'for every input' (looked for: loops, veiled, ifaces, maps, wideKeys, modest, calm, conditions, laid).
  DERIVED. THE GIVEN ROWS OF THIS SEAT. 8 by the template 'for every input the law returns true; each argument reads behind the call as it read before'; 0 by the template 'total and deterministic' (their statements: YtiopjegbggjdcaaTotals.lean).
  GIVEN WITH THE SEED: the statements are not yours to turn. If you find one false, say at which input.
  Laid BY PROGRAM, IN A SANDBOX (cutbox-rows.mjs): the forced cells as the released guide's own fill.sh prints them over the translation d40ba2dc2143be26… (all of the seat's roots in one cut). By AI agents, Wed Nov 11 2026. No macro, syntax, notation, axiom, sorry.
-/
import Derived.Test.YtiopjegbggjdcaaChecked
import GoSem.Claim
import GoSem.ClaimJoined
import GoSem.ClaimMapViews
import Derived.JoinedTies
import Derived.KernelRfl
namespace Go.Proofs.Ytiopjegbggjdcaa
/- THE CELL 'sum', in the pinned program and in every row, IS THE sha256 OF THE DUMP (.gsa) THAT YtiopjegbggjdcaaProg.lean LOADS. Nothing in Lean hashes anything: it is a label: what it is worth is what the hold of that sum in a sandbox is worth. -/
noncomputable def Try.pinned : Pinned := { name := "ytiopjegbggjdcaa", sum := "d40ba2dc2143be266ee57559de8ad302b931e8de2181ca5f8774ae17cc383e55", checked := Try.checked }
namespace Rows
def none {H : Type} : Left H := { results := [], args := [] }

/-- 'laws.FnExactFirstDesk': WHATEVER THE INPUT: true; the input reads as it did. -/
def fnExactFirstDeskSpec : ChangeSpec := { name := "fnExactFirstDesk", fn := fun _ => fun
  | [] => { results := [.lit (.bool true)], args := [] }
  | _ => none }
def fnExactFirstDeskRow : OpenClaim := { program := "ytiopjegbggjdcaa", sum := "d40ba2dc2143be266ee57559de8ad302b931e8de2181ca5f8774ae17cc383e55", func := "loop.example/g01232/laws.FnExactFirstDesk", spec := "fnExactFirstDesk", apart := false }
def FnExactFirstDeskSaid : Prop := fnExactFirstDeskRow.holds Try.pinned (OpenSpec.ofChange fnExactFirstDeskSpec)

/-- ITS FALSE NEIGHBOUR: 'it returns false'. Refute it at one input. -/
def fnExactFirstDeskWrong : ChangeSpec := { name := "fnExactFirstDesk", fn := fun _ => fun
  | [] => { results := [.lit (.bool false)], args := [] }
  | _ => none }
def FnExactFirstDeskWrongFalsely : Prop := fnExactFirstDeskRow.holds Try.pinned (OpenSpec.ofChange fnExactFirstDeskWrong)

/-- 'laws.FnExactIsDesk': WHATEVER THE INPUT: true; the input reads as it did. -/
def fnExactIsDeskSpec : ChangeSpec := { name := "fnExactIsDesk", fn := fun _ => fun
  | [d] => { results := [.lit (.bool true)], args := [d] }
  | _ => none }
def fnExactIsDeskRow : OpenClaim := { program := "ytiopjegbggjdcaa", sum := "d40ba2dc2143be266ee57559de8ad302b931e8de2181ca5f8774ae17cc383e55", func := "loop.example/g01232/laws.FnExactIsDesk", spec := "fnExactIsDesk", apart := false }
def FnExactIsDeskSaid : Prop := fnExactIsDeskRow.holds Try.pinned (OpenSpec.ofChange fnExactIsDeskSpec)

/-- ITS FALSE NEIGHBOUR: 'it returns false'. Refute it at one input. -/
def fnExactIsDeskWrong : ChangeSpec := { name := "fnExactIsDesk", fn := fun _ => fun
  | [d] => { results := [.lit (.bool false)], args := [d] }
  | _ => none }
def FnExactIsDeskWrongFalsely : Prop := fnExactIsDeskRow.holds Try.pinned (OpenSpec.ofChange fnExactIsDeskWrong)

/-- 'laws.FnExactPuzzleOfRow': WHATEVER THE INPUT: true; the input reads as it did. -/
def fnExactPuzzleOfRowSpec : ChangeSpec := { name := "fnExactPuzzleOfRow", fn := fun _ => fun
  | [d1, d2] => { results := [.lit (.bool true)], args := [d1, d2] }
  | _ => none }
def fnExactPuzzleOfRowRow : OpenClaim := { program := "ytiopjegbggjdcaa", sum := "d40ba2dc2143be266ee57559de8ad302b931e8de2181ca5f8774ae17cc383e55", func := "loop.example/g01232/laws.FnExactPuzzleOfRow", spec := "fnExactPuzzleOfRow", apart := false }
def FnExactPuzzleOfRowSaid : Prop := fnExactPuzzleOfRowRow.holds Try.pinned (OpenSpec.ofChange fnExactPuzzleOfRowSpec)

/-- ITS FALSE NEIGHBOUR: 'it returns false'. Refute it at one input. -/
def fnExactPuzzleOfRowWrong : ChangeSpec := { name := "fnExactPuzzleOfRow", fn := fun _ => fun
  | [d1, d2] => { results := [.lit (.bool false)], args := [d1, d2] }
  | _ => none }
def FnExactPuzzleOfRowWrongFalsely : Prop := fnExactPuzzleOfRowRow.holds Try.pinned (OpenSpec.ofChange fnExactPuzzleOfRowWrong)

/-- 'laws.FnExactJoinSkolem': WHATEVER THE INPUT: true; the input reads as it did. -/
def fnExactJoinSkolemSpec : ChangeSpec := { name := "fnExactJoinSkolem", fn := fun _ => fun
  | [d1, d2] => { results := [.lit (.bool true)], args := [d1, d2] }
  | _ => none }
def fnExactJoinSkolemRow : OpenClaim := { program := "ytiopjegbggjdcaa", sum := "d40ba2dc2143be266ee57559de8ad302b931e8de2181ca5f8774ae17cc383e55", func := "loop.example/g01232/laws.FnExactJoinSkolem", spec := "fnExactJoinSkolem", apart := false }
def FnExactJoinSkolemSaid : Prop := fnExactJoinSkolemRow.holds Try.pinned (OpenSpec.ofChange fnExactJoinSkolemSpec)

/-- ITS FALSE NEIGHBOUR: 'it returns false'. Refute it at one input. -/
def fnExactJoinSkolemWrong : ChangeSpec := { name := "fnExactJoinSkolem", fn := fun _ => fun
  | [d1, d2] => { results := [.lit (.bool false)], args := [d1, d2] }
  | _ => none }
def FnExactJoinSkolemWrongFalsely : Prop := fnExactJoinSkolemRow.holds Try.pinned (OpenSpec.ofChange fnExactJoinSkolemWrong)

/-- 'laws.FnExactHookRows': WHATEVER THE INPUT: true; the input reads as it did. -/
def fnExactHookRowsSpec : ChangeSpec := { name := "fnExactHookRows", fn := fun _ => fun
  | [d1, d2] => { results := [.lit (.bool true)], args := [d1, d2] }
  | _ => none }
def fnExactHookRowsRow : OpenClaim := { program := "ytiopjegbggjdcaa", sum := "d40ba2dc2143be266ee57559de8ad302b931e8de2181ca5f8774ae17cc383e55", func := "loop.example/g01232/laws.FnExactHookRows", spec := "fnExactHookRows", apart := false }
def FnExactHookRowsSaid : Prop := fnExactHookRowsRow.holds Try.pinned (OpenSpec.ofChange fnExactHookRowsSpec)

/-- ITS FALSE NEIGHBOUR: 'it returns false'. Refute it at one input. -/
def fnExactHookRowsWrong : ChangeSpec := { name := "fnExactHookRows", fn := fun _ => fun
  | [d1, d2] => { results := [.lit (.bool false)], args := [d1, d2] }
  | _ => none }
def FnExactHookRowsWrongFalsely : Prop := fnExactHookRowsRow.holds Try.pinned (OpenSpec.ofChange fnExactHookRowsWrong)

/-- 'laws.FnExactBlocksOfSet': WHATEVER THE INPUT: true; the input reads as it did. -/
def fnExactBlocksOfSetSpec : ChangeSpec := { name := "fnExactBlocksOfSet", fn := fun _ => fun
  | [d1, d2] => { results := [.lit (.bool true)], args := [d1, d2] }
  | _ => none }
def fnExactBlocksOfSetRow : OpenClaim := { program := "ytiopjegbggjdcaa", sum := "d40ba2dc2143be266ee57559de8ad302b931e8de2181ca5f8774ae17cc383e55", func := "loop.example/g01232/laws.FnExactBlocksOfSet", spec := "fnExactBlocksOfSet", recurses := true, apart := false }
def FnExactBlocksOfSetSaid : Prop := fnExactBlocksOfSetRow.holds Try.pinned (OpenSpec.ofChange fnExactBlocksOfSetSpec)

/-- ITS FALSE NEIGHBOUR: 'it returns false'. Refute it at one input. -/
def fnExactBlocksOfSetWrong : ChangeSpec := { name := "fnExactBlocksOfSet", fn := fun _ => fun
  | [d1, d2] => { results := [.lit (.bool false)], args := [d1, d2] }
  | _ => none }
def FnExactBlocksOfSetWrongFalsely : Prop := fnExactBlocksOfSetRow.holds Try.pinned (OpenSpec.ofChange fnExactBlocksOfSetWrong)

/-- 'laws.FnExactMultipliersOf': WHATEVER THE INPUT: true; the input reads as it did. -/
def fnExactMultipliersOfSpec : ChangeSpec := { name := "fnExactMultipliersOf", fn := fun _ => fun
  | [d1, d2] => { results := [.lit (.bool true)], args := [d1, d2] }
  | _ => none }
def fnExactMultipliersOfRow : OpenClaim := { program := "ytiopjegbggjdcaa", sum := "d40ba2dc2143be266ee57559de8ad302b931e8de2181ca5f8774ae17cc383e55", func := "loop.example/g01232/laws.FnExactMultipliersOf", spec := "fnExactMultipliersOf", recurses := true, apart := false }
def FnExactMultipliersOfSaid : Prop := fnExactMultipliersOfRow.holds Try.pinned (OpenSpec.ofChange fnExactMultipliersOfSpec)

/-- ITS FALSE NEIGHBOUR: 'it returns false'. Refute it at one input. -/
def fnExactMultipliersOfWrong : ChangeSpec := { name := "fnExactMultipliersOf", fn := fun _ => fun
  | [d1, d2] => { results := [.lit (.bool false)], args := [d1, d2] }
  | _ => none }
def FnExactMultipliersOfWrongFalsely : Prop := fnExactMultipliersOfRow.holds Try.pinned (OpenSpec.ofChange fnExactMultipliersOfWrong)

/-- 'laws.FnExactCanStand': WHATEVER THE INPUT: true; the input reads as it did. -/
def fnExactCanStandSpec : ChangeSpec := { name := "fnExactCanStand", fn := fun _ => fun
  | [d1, d2] => { results := [.lit (.bool true)], args := [d1, d2] }
  | _ => none }
def fnExactCanStandRow : OpenClaim := { program := "ytiopjegbggjdcaa", sum := "d40ba2dc2143be266ee57559de8ad302b931e8de2181ca5f8774ae17cc383e55", func := "loop.example/g01232/laws.FnExactCanStand", spec := "fnExactCanStand", unfollowed := true, recurses := true, apart := false }
def FnExactCanStandSaid : Prop := fnExactCanStandRow.holds Try.pinned (OpenSpec.ofChange fnExactCanStandSpec)

/-- ITS FALSE NEIGHBOUR: 'it returns false'. Refute it at one input. -/
def fnExactCanStandWrong : ChangeSpec := { name := "fnExactCanStand", fn := fun _ => fun
  | [d1, d2] => { results := [.lit (.bool false)], args := [d1, d2] }
  | _ => none }
def FnExactCanStandWrongFalsely : Prop := fnExactCanStandRow.holds Try.pinned (OpenSpec.ofChange fnExactCanStandWrong)

/- THE SECOND FORM. 'bulk': how many values and letters a reading holds, each counted each time it is reached (what is shared counts as often as it is met; a slice's spare places count too). A statement '..UptoSaid' is the law's where the arguments, and the package variables that the reading takes, are together of bulk at most 1048576: NARROWER than '..Said'. Prove '..Said' where nothing that the law and all that it calls make is longer than what came in: it says more and counts as full. Else prove '..UptoSaid'. A law counts once. -/
mutual
def uptoBulk {H : Type} : DataW H → Nat
  | .lit (.string bytes) => bytes.length + 1
  | .lit _ => 1
  | .nil => 1
  | .ptr d => uptoBulk d + 1
  | .slice elems spare => uptoBulkAll elems + uptoBulkAll spare + 1
  | .agg parts => uptoBulkAll parts + 1
  | .iface _ d => uptoBulk d + 1
  | .map entries => uptoBulkEntries entries + 1
  | .held _ => 1
def uptoBulkAll {H : Type} : List (DataW H) → Nat
  | [] => 0
  | d :: r => uptoBulk d + uptoBulkAll r
def uptoBulkEntries {H : Type} : List (Lit × DataW H) → Nat
  | [] => 0
  | x :: r => uptoBulkEntry x + uptoBulkEntries r
def uptoBulkEntry {H : Type} : Lit × DataW H → Nat
  | (.string bytes, d) => bytes.length + uptoBulk d + 1
  | (_, d) => uptoBulk d + 1
 end
def uptoSmall : (H : Type) → List (DataW H) → Bool := fun _ ds => decide (uptoBulkAll ds ≤ 1048576)
def OpenSpec.upto (s : _root_.Go.ChangeSpec) : _root_.Go.OpenSpec := { _root_.Go.OpenSpec.ofChange s with cond := some uptoSmall }

/-- 'laws.FnExactFirstDesk', WHERE WHAT IT READS IS OF BULK AT MOST 1048576: true; the input reads as it did. -/
def fnExactFirstDeskUptoRow : OpenClaim := { program := "ytiopjegbggjdcaa", sum := "d40ba2dc2143be266ee57559de8ad302b931e8de2181ca5f8774ae17cc383e55", func := "loop.example/g01232/laws.FnExactFirstDesk", spec := "fnExactFirstDesk", apart := false, narrowed := true }
def FnExactFirstDeskUptoSaid : Prop := fnExactFirstDeskUptoRow.holds Try.pinned (OpenSpec.upto fnExactFirstDeskSpec)

/-- 'laws.FnExactIsDesk', WHERE WHAT IT READS IS OF BULK AT MOST 1048576: true; the input reads as it did. -/
def fnExactIsDeskUptoRow : OpenClaim := { program := "ytiopjegbggjdcaa", sum := "d40ba2dc2143be266ee57559de8ad302b931e8de2181ca5f8774ae17cc383e55", func := "loop.example/g01232/laws.FnExactIsDesk", spec := "fnExactIsDesk", apart := false, narrowed := true }
def FnExactIsDeskUptoSaid : Prop := fnExactIsDeskUptoRow.holds Try.pinned (OpenSpec.upto fnExactIsDeskSpec)

/-- 'laws.FnExactPuzzleOfRow', WHERE WHAT IT READS IS OF BULK AT MOST 1048576: true; the input reads as it did. -/
def fnExactPuzzleOfRowUptoRow : OpenClaim := { program := "ytiopjegbggjdcaa", sum := "d40ba2dc2143be266ee57559de8ad302b931e8de2181ca5f8774ae17cc383e55", func := "loop.example/g01232/laws.FnExactPuzzleOfRow", spec := "fnExactPuzzleOfRow", apart := false, narrowed := true }
def FnExactPuzzleOfRowUptoSaid : Prop := fnExactPuzzleOfRowUptoRow.holds Try.pinned (OpenSpec.upto fnExactPuzzleOfRowSpec)

/-- 'laws.FnExactJoinSkolem', WHERE WHAT IT READS IS OF BULK AT MOST 1048576: true; the input reads as it did. -/
def fnExactJoinSkolemUptoRow : OpenClaim := { program := "ytiopjegbggjdcaa", sum := "d40ba2dc2143be266ee57559de8ad302b931e8de2181ca5f8774ae17cc383e55", func := "loop.example/g01232/laws.FnExactJoinSkolem", spec := "fnExactJoinSkolem", apart := false, narrowed := true }
def FnExactJoinSkolemUptoSaid : Prop := fnExactJoinSkolemUptoRow.holds Try.pinned (OpenSpec.upto fnExactJoinSkolemSpec)

/-- 'laws.FnExactHookRows', WHERE WHAT IT READS IS OF BULK AT MOST 1048576: true; the input reads as it did. -/
def fnExactHookRowsUptoRow : OpenClaim := { program := "ytiopjegbggjdcaa", sum := "d40ba2dc2143be266ee57559de8ad302b931e8de2181ca5f8774ae17cc383e55", func := "loop.example/g01232/laws.FnExactHookRows", spec := "fnExactHookRows", apart := false, narrowed := true }
def FnExactHookRowsUptoSaid : Prop := fnExactHookRowsUptoRow.holds Try.pinned (OpenSpec.upto fnExactHookRowsSpec)

/-- 'laws.FnExactBlocksOfSet', WHERE WHAT IT READS IS OF BULK AT MOST 1048576: true; the input reads as it did. -/
def fnExactBlocksOfSetUptoRow : OpenClaim := { program := "ytiopjegbggjdcaa", sum := "d40ba2dc2143be266ee57559de8ad302b931e8de2181ca5f8774ae17cc383e55", func := "loop.example/g01232/laws.FnExactBlocksOfSet", spec := "fnExactBlocksOfSet", recurses := true, apart := false, narrowed := true }
def FnExactBlocksOfSetUptoSaid : Prop := fnExactBlocksOfSetUptoRow.holds Try.pinned (OpenSpec.upto fnExactBlocksOfSetSpec)

/-- 'laws.FnExactMultipliersOf', WHERE WHAT IT READS IS OF BULK AT MOST 1048576: true; the input reads as it did. -/
def fnExactMultipliersOfUptoRow : OpenClaim := { program := "ytiopjegbggjdcaa", sum := "d40ba2dc2143be266ee57559de8ad302b931e8de2181ca5f8774ae17cc383e55", func := "loop.example/g01232/laws.FnExactMultipliersOf", spec := "fnExactMultipliersOf", recurses := true, apart := false, narrowed := true }
def FnExactMultipliersOfUptoSaid : Prop := fnExactMultipliersOfUptoRow.holds Try.pinned (OpenSpec.upto fnExactMultipliersOfSpec)

/-- 'laws.FnExactCanStand', WHERE WHAT IT READS IS OF BULK AT MOST 1048576: true; the input reads as it did. -/
def fnExactCanStandUptoRow : OpenClaim := { program := "ytiopjegbggjdcaa", sum := "d40ba2dc2143be266ee57559de8ad302b931e8de2181ca5f8774ae17cc383e55", func := "loop.example/g01232/laws.FnExactCanStand", spec := "fnExactCanStand", unfollowed := true, recurses := true, apart := false, narrowed := true }
def FnExactCanStandUptoSaid : Prop := fnExactCanStandUptoRow.holds Try.pinned (OpenSpec.upto fnExactCanStandSpec)

end Rows
end Go.Proofs.Ytiopjegbggjdcaa
