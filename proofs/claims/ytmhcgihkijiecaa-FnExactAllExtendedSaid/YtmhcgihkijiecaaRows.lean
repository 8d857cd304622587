/-
  No cell of these rows narrows 'for every input' (looked for: loops, veiled, ifaces, maps, wideKeys, modest, calm, conditions, laid).
  DERIVED. THE GIVEN ROWS OF THIS SEAT. 12 by the template 'for every input the law returns true; each argument reads behind the call as it read before'; 0 by the template 'total and deterministic' (their statements: YtmhcgihkijiecaaTotals.lean).
  GIVEN WITH THE SEED: the statements are not yours to turn. If you find one false, say at which input.
  Laid BY PROGRAM, IN A SANDBOX (cutbox-rows.mjs): the forced cells as the released guide's own fill.sh prints them over the translation 3d0a15db9904480b… (all of the seat's roots in one cut). By AI agents, Wed Nov 11 2026. No macro, syntax, notation, axiom, sorry.
-/
import Derived.Test.YtmhcgihkijiecaaChecked
import GoSem.Claim
import GoSem.ClaimJoined
import GoSem.ClaimMapViews
import Derived.JoinedTies
import Derived.KernelRfl
namespace Go.Proofs.Ytmhcgihkijiecaa
/- THE CELL 'sum', in the pinned program and in every row, IS THE sha256 OF THE DUMP (.gsa) THAT YtmhcgihkijiecaaProg.lean LOADS. Nothing in Lean hashes anything: it is a label: what it is worth is what the hold of that sum in a sandbox is worth. -/
noncomputable def Try.pinned : Pinned := { name := "ytmhcgihkijiecaa", sum := "3d0a15db9904480bdd0efcaf209a94857d86f5be246277326dccae1480c525f2", checked := Try.checked }
namespace Rows
def none {H : Type} : Left H := { results := [], args := [] }

/-- 'laws.FnExactIsExtendedThere': WHATEVER THE INPUT: true; the input reads as it did. -/
def fnExactIsExtendedThereSpec : ChangeSpec := { name := "fnExactIsExtendedThere", fn := fun _ => fun
  | [d1, d2] => { results := [.lit (.bool true)], args := [d1, d2] }
  | _ => none }
def fnExactIsExtendedThereRow : OpenClaim := { program := "ytmhcgihkijiecaa", sum := "3d0a15db9904480bdd0efcaf209a94857d86f5be246277326dccae1480c525f2", func := "loop.example/g01232/laws.FnExactIsExtendedThere", spec := "fnExactIsExtendedThere", apart := false }
def FnExactIsExtendedThereSaid : Prop := fnExactIsExtendedThereRow.holds Try.pinned (OpenSpec.ofChange fnExactIsExtendedThereSpec)

/-- ITS FALSE NEIGHBOUR: 'it returns false'. Refute it at one input. -/
def fnExactIsExtendedThereWrong : ChangeSpec := { name := "fnExactIsExtendedThere", fn := fun _ => fun
  | [d1, d2] => { results := [.lit (.bool false)], args := [d1, d2] }
  | _ => none }
def FnExactIsExtendedThereWrongFalsely : Prop := fnExactIsExtendedThereRow.holds Try.pinned (OpenSpec.ofChange fnExactIsExtendedThereWrong)

/-- 'laws.FnExactJoinRows': WHATEVER THE INPUT: true; the input reads as it did. -/
def fnExactJoinRowsSpec : ChangeSpec := { name := "fnExactJoinRows", fn := fun _ => fun
  | [d1, d2] => { results := [.lit (.bool true)], args := [d1, d2] }
  | _ => none }
def fnExactJoinRowsRow : OpenClaim := { program := "ytmhcgihkijiecaa", sum := "3d0a15db9904480bdd0efcaf209a94857d86f5be246277326dccae1480c525f2", func := "loop.example/g01232/laws.FnExactJoinRows", spec := "fnExactJoinRows", apart := false }
def FnExactJoinRowsSaid : Prop := fnExactJoinRowsRow.holds Try.pinned (OpenSpec.ofChange fnExactJoinRowsSpec)

/-- ITS FALSE NEIGHBOUR: 'it returns false'. Refute it at one input. -/
def fnExactJoinRowsWrong : ChangeSpec := { name := "fnExactJoinRows", fn := fun _ => fun
  | [d1, d2] => { results := [.lit (.bool false)], args := [d1, d2] }
  | _ => none }
def FnExactJoinRowsWrongFalsely : Prop := fnExactJoinRowsRow.holds Try.pinned (OpenSpec.ofChange fnExactJoinRowsWrong)

/-- 'laws.FnExactTrimRow': WHATEVER THE INPUT: true; the input reads as it did. -/
def fnExactTrimRowSpec : ChangeSpec := { name := "fnExactTrimRow", fn := fun _ => fun
  | [d] => { results := [.lit (.bool true)], args := [d] }
  | _ => none }
def fnExactTrimRowRow : OpenClaim := { program := "ytmhcgihkijiecaa", sum := "3d0a15db9904480bdd0efcaf209a94857d86f5be246277326dccae1480c525f2", func := "loop.example/g01232/laws.FnExactTrimRow", spec := "fnExactTrimRow", apart := false }
def FnExactTrimRowSaid : Prop := fnExactTrimRowRow.holds Try.pinned (OpenSpec.ofChange fnExactTrimRowSpec)

/-- ITS FALSE NEIGHBOUR: 'it returns false'. Refute it at one input. -/
def fnExactTrimRowWrong : ChangeSpec := { name := "fnExactTrimRow", fn := fun _ => fun
  | [d] => { results := [.lit (.bool false)], args := [d] }
  | _ => none }
def FnExactTrimRowWrongFalsely : Prop := fnExactTrimRowRow.holds Try.pinned (OpenSpec.ofChange fnExactTrimRowWrong)

/-- 'laws.FnExactCountExtended': WHATEVER THE INPUT: true; the input reads as it did. -/
def fnExactCountExtendedSpec : ChangeSpec := { name := "fnExactCountExtended", fn := fun _ => fun
  | [d1, d2] => { results := [.lit (.bool true)], args := [d1, d2] }
  | _ => none }
def fnExactCountExtendedRow : OpenClaim := { program := "ytmhcgihkijiecaa", sum := "3d0a15db9904480bdd0efcaf209a94857d86f5be246277326dccae1480c525f2", func := "loop.example/g01232/laws.FnExactCountExtended", spec := "fnExactCountExtended", unfollowed := true, recurses := true, apart := false }
def FnExactCountExtendedSaid : Prop := fnExactCountExtendedRow.holds Try.pinned (OpenSpec.ofChange fnExactCountExtendedSpec)

/-- ITS FALSE NEIGHBOUR: 'it returns false'. Refute it at one input. -/
def fnExactCountExtendedWrong : ChangeSpec := { name := "fnExactCountExtended", fn := fun _ => fun
  | [d1, d2] => { results := [.lit (.bool false)], args := [d1, d2] }
  | _ => none }
def FnExactCountExtendedWrongFalsely : Prop := fnExactCountExtendedRow.holds Try.pinned (OpenSpec.ofChange fnExactCountExtendedWrong)

/-- 'laws.FnExactFirstExtended': WHATEVER THE INPUT: true; the input reads as it did. -/
def fnExactFirstExtendedSpec : ChangeSpec := { name := "fnExactFirstExtended", fn := fun _ => fun
  | [d1, d2] => { results := [.lit (.bool true)], args := [d1, d2] }
  | _ => none }
def fnExactFirstExtendedRow : OpenClaim := { program := "ytmhcgihkijiecaa", sum := "3d0a15db9904480bdd0efcaf209a94857d86f5be246277326dccae1480c525f2", func := "loop.example/g01232/laws.FnExactFirstExtended", spec := "fnExactFirstExtended", unfollowed := true, recurses := true, apart := false }
def FnExactFirstExtendedSaid : Prop := fnExactFirstExtendedRow.holds Try.pinned (OpenSpec.ofChange fnExactFirstExtendedSpec)

/-- ITS FALSE NEIGHBOUR: 'it returns false'. Refute it at one input. -/
def fnExactFirstExtendedWrong : ChangeSpec := { name := "fnExactFirstExtended", fn := fun _ => fun
  | [d1, d2] => { results := [.lit (.bool false)], args := [d1, d2] }
  | _ => none }
def FnExactFirstExtendedWrongFalsely : Prop := fnExactFirstExtendedRow.holds Try.pinned (OpenSpec.ofChange fnExactFirstExtendedWrong)

/-- 'laws.FnExactAllExtended': WHATEVER THE INPUT: true; the input reads as it did. -/
def fnExactAllExtendedSpec : ChangeSpec := { name := "fnExactAllExtended", fn := fun _ => fun
  | [d1, d2] => { results := [.lit (.bool true)], args := [d1, d2] }
  | _ => none }
def fnExactAllExtendedRow : OpenClaim := { program := "ytmhcgihkijiecaa", sum := "3d0a15db9904480bdd0efcaf209a94857d86f5be246277326dccae1480c525f2", func := "loop.example/g01232/laws.FnExactAllExtended", spec := "fnExactAllExtended", unfollowed := true, recurses := true, apart := false }
def FnExactAllExtendedSaid : Prop := fnExactAllExtendedRow.holds Try.pinned (OpenSpec.ofChange fnExactAllExtendedSpec)

/-- ITS FALSE NEIGHBOUR: 'it returns false'. Refute it at one input. -/
def fnExactAllExtendedWrong : ChangeSpec := { name := "fnExactAllExtended", fn := fun _ => fun
  | [d1, d2] => { results := [.lit (.bool false)], args := [d1, d2] }
  | _ => none }
def FnExactAllExtendedWrongFalsely : Prop := fnExactAllExtendedRow.holds Try.pinned (OpenSpec.ofChange fnExactAllExtendedWrong)

/-- 'laws.FnExactSpreadRow': WHATEVER THE INPUT: true; the input reads as it did. -/
def fnExactSpreadRowSpec : ChangeSpec := { name := "fnExactSpreadRow", fn := fun _ => fun
  | [d1, d2] => { results := [.lit (.bool true)], args := [d1, d2] }
  | _ => none }
def fnExactSpreadRowRow : OpenClaim := { program := "ytmhcgihkijiecaa", sum := "3d0a15db9904480bdd0efcaf209a94857d86f5be246277326dccae1480c525f2", func := "loop.example/g01232/laws.FnExactSpreadRow", spec := "fnExactSpreadRow", apart := false }
def FnExactSpreadRowSaid : Prop := fnExactSpreadRowRow.holds Try.pinned (OpenSpec.ofChange fnExactSpreadRowSpec)

/-- ITS FALSE NEIGHBOUR: 'it returns false'. Refute it at one input. -/
def fnExactSpreadRowWrong : ChangeSpec := { name := "fnExactSpreadRow", fn := fun _ => fun
  | [d1, d2] => { results := [.lit (.bool false)], args := [d1, d2] }
  | _ => none }
def FnExactSpreadRowWrongFalsely : Prop := fnExactSpreadRowRow.holds Try.pinned (OpenSpec.ofChange fnExactSpreadRowWrong)

/-- 'laws.FnExactMeshRows': WHATEVER THE INPUT: true; the input reads as it did. -/
def fnExactMeshRowsSpec : ChangeSpec := { name := "fnExactMeshRows", fn := fun _ => fun
  | [d1, d2, d3] => { results := [.lit (.bool true)], args := [d1, d2, d3] }
  | _ => none }
def fnExactMeshRowsRow : OpenClaim := { program := "ytmhcgihkijiecaa", sum := "3d0a15db9904480bdd0efcaf209a94857d86f5be246277326dccae1480c525f2", func := "loop.example/g01232/laws.FnExactMeshRows", spec := "fnExactMeshRows", apart := false }
def FnExactMeshRowsSaid : Prop := fnExactMeshRowsRow.holds Try.pinned (OpenSpec.ofChange fnExactMeshRowsSpec)

/-- ITS FALSE NEIGHBOUR: 'it returns false'. Refute it at one input. -/
def fnExactMeshRowsWrong : ChangeSpec := { name := "fnExactMeshRows", fn := fun _ => fun
  | [d1, d2, d3] => { results := [.lit (.bool false)], args := [d1, d2, d3] }
  | _ => none }
def FnExactMeshRowsWrongFalsely : Prop := fnExactMeshRowsRow.holds Try.pinned (OpenSpec.ofChange fnExactMeshRowsWrong)

/-- 'laws.FnExactIsExtended': WHATEVER THE INPUT: true; the input reads as it did. -/
def fnExactIsExtendedSpec : ChangeSpec := { name := "fnExactIsExtended", fn := fun _ => fun
  | [d] => { results := [.lit (.bool true)], args := [d] }
  | _ => none }
def fnExactIsExtendedRow : OpenClaim := { program := "ytmhcgihkijiecaa", sum := "3d0a15db9904480bdd0efcaf209a94857d86f5be246277326dccae1480c525f2", func := "loop.example/g01232/laws.FnExactIsExtended", spec := "fnExactIsExtended", apart := false }
def FnExactIsExtendedSaid : Prop := fnExactIsExtendedRow.holds Try.pinned (OpenSpec.ofChange fnExactIsExtendedSpec)

/-- ITS FALSE NEIGHBOUR: 'it returns false'. Refute it at one input. -/
def fnExactIsExtendedWrong : ChangeSpec := { name := "fnExactIsExtended", fn := fun _ => fun
  | [d] => { results := [.lit (.bool false)], args := [d] }
  | _ => none }
def FnExactIsExtendedWrongFalsely : Prop := fnExactIsExtendedRow.holds Try.pinned (OpenSpec.ofChange fnExactIsExtendedWrong)

/-- 'laws.FnExactHoleOf': WHATEVER THE INPUT: true; the input reads as it did. -/
def fnExactHoleOfSpec : ChangeSpec := { name := "fnExactHoleOf", fn := fun _ => fun
  | [d] => { results := [.lit (.bool true)], args := [d] }
  | _ => none }
def fnExactHoleOfRow : OpenClaim := { program := "ytmhcgihkijiecaa", sum := "3d0a15db9904480bdd0efcaf209a94857d86f5be246277326dccae1480c525f2", func := "loop.example/g01232/laws.FnExactHoleOf", spec := "fnExactHoleOf", apart := false }
def FnExactHoleOfSaid : Prop := fnExactHoleOfRow.holds Try.pinned (OpenSpec.ofChange fnExactHoleOfSpec)

/-- ITS FALSE NEIGHBOUR: 'it returns false'. Refute it at one input. -/
def fnExactHoleOfWrong : ChangeSpec := { name := "fnExactHoleOf", fn := fun _ => fun
  | [d] => { results := [.lit (.bool false)], args := [d] }
  | _ => none }
def FnExactHoleOfWrongFalsely : Prop := fnExactHoleOfRow.holds Try.pinned (OpenSpec.ofChange fnExactHoleOfWrong)

/-- 'laws.FnExactTurnHooked': WHATEVER THE INPUT: true; the input reads as it did. -/
def fnExactTurnHookedSpec : ChangeSpec := { name := "fnExactTurnHooked", fn := fun _ => fun
  | [d] => { results := [.lit (.bool true)], args := [d] }
  | _ => none }
def fnExactTurnHookedRow : OpenClaim := { program := "ytmhcgihkijiecaa", sum := "3d0a15db9904480bdd0efcaf209a94857d86f5be246277326dccae1480c525f2", func := "loop.example/g01232/laws.FnExactTurnHooked", spec := "fnExactTurnHooked", apart := false }
def FnExactTurnHookedSaid : Prop := fnExactTurnHookedRow.holds Try.pinned (OpenSpec.ofChange fnExactTurnHookedSpec)

/-- ITS FALSE NEIGHBOUR: 'it returns false'. Refute it at one input. -/
def fnExactTurnHookedWrong : ChangeSpec := { name := "fnExactTurnHooked", fn := fun _ => fun
  | [d] => { results := [.lit (.bool false)], args := [d] }
  | _ => none }
def FnExactTurnHookedWrongFalsely : Prop := fnExactTurnHookedRow.holds Try.pinned (OpenSpec.ofChange fnExactTurnHookedWrong)

/-- 'laws.FnExactSkolemOfExtended': WHATEVER THE INPUT: true; the input reads as it did. -/
def fnExactSkolemOfExtendedSpec : ChangeSpec := { name := "fnExactSkolemOfExtended", fn := fun _ => fun
  | [d] => { results := [.lit (.bool true)], args := [d] }
  | _ => none }
def fnExactSkolemOfExtendedRow : OpenClaim := { program := "ytmhcgihkijiecaa", sum := "3d0a15db9904480bdd0efcaf209a94857d86f5be246277326dccae1480c525f2", func := "loop.example/g01232/laws.FnExactSkolemOfExtended", spec := "fnExactSkolemOfExtended", apart := false }
def FnExactSkolemOfExtendedSaid : Prop := fnExactSkolemOfExtendedRow.holds Try.pinned (OpenSpec.ofChange fnExactSkolemOfExtendedSpec)

/-- ITS FALSE NEIGHBOUR: 'it returns false'. Refute it at one input. -/
def fnExactSkolemOfExtendedWrong : ChangeSpec := { name := "fnExactSkolemOfExtended", fn := fun _ => fun
  | [d] => { results := [.lit (.bool false)], args := [d] }
  | _ => none }
def FnExactSkolemOfExtendedWrongFalsely : Prop := fnExactSkolemOfExtendedRow.holds Try.pinned (OpenSpec.ofChange fnExactSkolemOfExtendedWrong)

/- THE SECOND FORM. 'bulk': how many values and letters a reading holds, each counted each time it is reached (what is shared counts as often as it is met; a slice's spare places count too). A statement '..UptoSaid' is the law's where the arguments, and the package variables that the reading takes, are together of bulk at most 1048576: NARROWER than '..Said'. Prove '..Said' where nothing that the law and all that it calls make is longer than what came in: it says more and counts as full. Else prove '..UptoSaid'. A law counts once. -/
mutual
def uptoBulk {H : Type} : DataW H → Nat
  | .lit (.string bytes) => bytes.length + 1
  | .lit _ => 1
  | .nil => 1
  | .ptr d => uptoBulk d + 1
  | .slice elems spare => uptoBulkAll elems + uptoBulkAll spare + 1
  | .agg parts => uptoBulkAll parts + 1
  | .iface _ d => uptoBulk d + 1
  | .map entries => uptoBulkEntries entries + 1
  | .held _ => 1
def uptoBulkAll {H : Type} : List (DataW H) → Nat
  | [] => 0
  | d :: r => uptoBulk d + uptoBulkAll r
def uptoBulkEntries {H : Type} : List (Lit × DataW H) → Nat
  | [] => 0
  | x :: r => uptoBulkEntry x + uptoBulkEntries r
def uptoBulkEntry {H : Type} : Lit × DataW H → Nat
  | (.string bytes, d) => bytes.length + uptoBulk d + 1
  | (_, d) => uptoBulk d + 1
 end
def uptoSmall : (H : Type) → List (DataW H) → Bool := fun _ ds => decide (uptoBulkAll ds ≤ 1048576)
def OpenSpec.upto (s : _root_.Go.ChangeSpec) : _root_.Go.OpenSpec := { _root_.Go.OpenSpec.ofChange s with cond := some uptoSmall }

/-- 'laws.FnExactIsExtendedThere', WHERE WHAT IT READS IS OF BULK AT MOST 1048576: true; the input reads as it did. -/
def fnExactIsExtendedThereUptoRow : OpenClaim := { program := "ytmhcgihkijiecaa", sum := "3d0a15db9904480bdd0efcaf209a94857d86f5be246277326dccae1480c525f2", func := "loop.example/g01232/laws.FnExactIsExtendedThere", spec := "fnExactIsExtendedThere", apart := false, narrowed := true }
def FnExactIsExtendedThereUptoSaid : Prop := fnExactIsExtendedThereUptoRow.holds Try.pinned (OpenSpec.upto fnExactIsExtendedThereSpec)

/-- 'laws.FnExactJoinRows', WHERE WHAT IT READS IS OF BULK AT MOST 1048576: true; the input reads as it did. -/
def fnExactJoinRowsUptoRow : OpenClaim := { program := "ytmhcgihkijiecaa", sum := "3d0a15db9904480bdd0efcaf209a94857d86f5be246277326dccae1480c525f2", func := "loop.example/g01232/laws.FnExactJoinRows", spec := "fnExactJoinRows", apart := false, narrowed := true }
def FnExactJoinRowsUptoSaid : Prop := fnExactJoinRowsUptoRow.holds Try.pinned (OpenSpec.upto fnExactJoinRowsSpec)

/-- 'laws.FnExactTrimRow', WHERE WHAT IT READS IS OF BULK AT MOST 1048576: true; the input reads as it did. -/
def fnExactTrimRowUptoRow : OpenClaim := { program := "ytmhcgihkijiecaa", sum := "3d0a15db9904480bdd0efcaf209a94857d86f5be246277326dccae1480c525f2", func := "loop.example/g01232/laws.FnExactTrimRow", spec := "fnExactTrimRow", apart := false, narrowed := true }
def FnExactTrimRowUptoSaid : Prop := fnExactTrimRowUptoRow.holds Try.pinned (OpenSpec.upto fnExactTrimRowSpec)

/-- 'laws.FnExactCountExtended', WHERE WHAT IT READS IS OF BULK AT MOST 1048576: true; the input reads as it did. -/
def fnExactCountExtendedUptoRow : OpenClaim := { program := "ytmhcgihkijiecaa", sum := "3d0a15db9904480bdd0efcaf209a94857d86f5be246277326dccae1480c525f2", func := "loop.example/g01232/laws.FnExactCountExtended", spec := "fnExactCountExtended", unfollowed := true, recurses := true, apart := false, narrowed := true }
def FnExactCountExtendedUptoSaid : Prop := fnExactCountExtendedUptoRow.holds Try.pinned (OpenSpec.upto fnExactCountExtendedSpec)

/-- 'laws.FnExactFirstExtended', WHERE WHAT IT READS IS OF BULK AT MOST 1048576: true; the input reads as it did. -/
def fnExactFirstExtendedUptoRow : OpenClaim := { program := "ytmhcgihkijiecaa", sum := "3d0a15db9904480bdd0efcaf209a94857d86f5be246277326dccae1480c525f2", func := "loop.example/g01232/laws.FnExactFirstExtended", spec := "fnExactFirstExtended", unfollowed := true, recurses := true, apart := false, narrowed := true }
def FnExactFirstExtendedUptoSaid : Prop := fnExactFirstExtendedUptoRow.holds Try.pinned (OpenSpec.upto fnExactFirstExtendedSpec)

/-- 'laws.FnExactAllExtended', WHERE WHAT IT READS IS OF BULK AT MOST 1048576: true; the input reads as it did. -/
def fnExactAllExtendedUptoRow : OpenClaim := { program := "ytmhcgihkijiecaa", sum := "3d0a15db9904480bdd0efcaf209a94857d86f5be246277326dccae1480c525f2", func := "loop.example/g01232/laws.FnExactAllExtended", spec := "fnExactAllExtended", unfollowed := true, recurses := true, apart := false, narrowed := true }
def FnExactAllExtendedUptoSaid : Prop := fnExactAllExtendedUptoRow.holds Try.pinned (OpenSpec.upto fnExactAllExtendedSpec)

/-- 'laws.FnExactSpreadRow', WHERE WHAT IT READS IS OF BULK AT MOST 1048576: true; the input reads as it did. -/
def fnExactSpreadRowUptoRow : OpenClaim := { program := "ytmhcgihkijiecaa", sum := "3d0a15db9904480bdd0efcaf209a94857d86f5be246277326dccae1480c525f2", func := "loop.example/g01232/laws.FnExactSpreadRow", spec := "fnExactSpreadRow", apart := false, narrowed := true }
def FnExactSpreadRowUptoSaid : Prop := fnExactSpreadRowUptoRow.holds Try.pinned (OpenSpec.upto fnExactSpreadRowSpec)

/-- 'laws.FnExactMeshRows', WHERE WHAT IT READS IS OF BULK AT MOST 1048576: true; the input reads as it did. -/
def fnExactMeshRowsUptoRow : OpenClaim := { program := "ytmhcgihkijiecaa", sum := "3d0a15db9904480bdd0efcaf209a94857d86f5be246277326dccae1480c525f2", func := "loop.example/g01232/laws.FnExactMeshRows", spec := "fnExactMeshRows", apart := false, narrowed := true }
def FnExactMeshRowsUptoSaid : Prop := fnExactMeshRowsUptoRow.holds Try.pinned (OpenSpec.upto fnExactMeshRowsSpec)

/-- 'laws.FnExactIsExtended', WHERE WHAT IT READS IS OF BULK AT MOST 1048576: true; the input reads as it did. -/
def fnExactIsExtendedUptoRow : OpenClaim := { program := "ytmhcgihkijiecaa", sum := "3d0a15db9904480bdd0efcaf209a94857d86f5be246277326dccae1480c525f2", func := "loop.example/g01232/laws.FnExactIsExtended", spec := "fnExactIsExtended", apart := false, narrowed := true }
def FnExactIsExtendedUptoSaid : Prop := fnExactIsExtendedUptoRow.holds Try.pinned (OpenSpec.upto fnExactIsExtendedSpec)

/-- 'laws.FnExactHoleOf', WHERE WHAT IT READS IS OF BULK AT MOST 1048576: true; the input reads as it did. -/
def fnExactHoleOfUptoRow : OpenClaim := { program := "ytmhcgihkijiecaa", sum := "3d0a15db9904480bdd0efcaf209a94857d86f5be246277326dccae1480c525f2", func := "loop.example/g01232/laws.FnExactHoleOf", spec := "fnExactHoleOf", apart := false, narrowed := true }
def FnExactHoleOfUptoSaid : Prop := fnExactHoleOfUptoRow.holds Try.pinned (OpenSpec.upto fnExactHoleOfSpec)

/-- 'laws.FnExactTurnHooked', WHERE WHAT IT READS IS OF BULK AT MOST 1048576: true; the input reads as it did. -/
def fnExactTurnHookedUptoRow : OpenClaim := { program := "ytmhcgihkijiecaa", sum := "3d0a15db9904480bdd0efcaf209a94857d86f5be246277326dccae1480c525f2", func := "loop.example/g01232/laws.FnExactTurnHooked", spec := "fnExactTurnHooked", apart := false, narrowed := true }
def FnExactTurnHookedUptoSaid : Prop := fnExactTurnHookedUptoRow.holds Try.pinned (OpenSpec.upto fnExactTurnHookedSpec)

/-- 'laws.FnExactSkolemOfExtended', WHERE WHAT IT READS IS OF BULK AT MOST 1048576: true; the input reads as it did. -/
def fnExactSkolemOfExtendedUptoRow : OpenClaim := { program := "ytmhcgihkijiecaa", sum := "3d0a15db9904480bdd0efcaf209a94857d86f5be246277326dccae1480c525f2", func := "loop.example/g01232/laws.FnExactSkolemOfExtended", spec := "fnExactSkolemOfExtended", apart := false, narrowed := true }
def FnExactSkolemOfExtendedUptoSaid : Prop := fnExactSkolemOfExtendedUptoRow.holds Try.pinned (OpenSpec.upto fnExactSkolemOfExtendedSpec)

end Rows
end Go.Proofs.Ytmhcgihkijiecaa
