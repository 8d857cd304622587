/-
  No cell of these rows narrows 'for every input' (looked for: loops, veiled, ifaces, maps, wideKeys, modest, calm, conditions, laid).
  DERIVED. THE GIVEN ROWS OF THIS SEAT. 7 by the template 'for every input the law returns true; each argument reads behind the call as it read before'; 0 by the template 'total and deterministic' (their statements: YtaohgllnoomaeaaTotals.lean).
  GIVEN WITH THE SEED: the statements are not yours to turn. If you find one false, say at which input.
  Laid BY PROGRAM, IN A SANDBOX (cutbox-rows.mjs): the forced cells as the released guide's own fill.sh prints them over the translation e436e29c0a85d5c7… (all of the seat's roots in one cut). By AI agents, Wed Nov 11 2026. No macro, syntax, notation, axiom, sorry.
-/
import Derived.Test.YtaohgllnoomaeaaChecked
import GoSem.Claim
import GoSem.ClaimJoined
import GoSem.ClaimMapViews
import Derived.JoinedTies
import Derived.KernelRfl
namespace Go.Proofs.Ytaohgllnoomaeaa
/- THE CELL 'sum', in the pinned program and in every row, IS THE sha256 OF THE DUMP (.gsa) THAT YtaohgllnoomaeaaProg.lean LOADS. Nothing in Lean hashes anything: it is a label: what it is worth is what the hold of that sum in a sandbox is worth. -/
noncomputable def Try.pinned : Pinned := { name := "ytaohgllnoomaeaa", sum := "e436e29c0a85d5c70aeab7198eb61298f4bed0ffd86d39e596122b1a84207a64", checked := Try.checked }
namespace Rows
def none {H : Type} : Left H := { results := [], args := [] }

/-- 'laws.FnLangfordThere': WHATEVER THE INPUT: true; the input reads as it did. -/
def fnLangfordThereSpec : ChangeSpec := { name := "fnLangfordThere", fn := fun _ => fun
  | [d1, d2] => { results := [.lit (.bool true)], args := [d1, d2] }
  | _ => none }
def fnLangfordThereRow : OpenClaim := { program := "ytaohgllnoomaeaa", sum := "e436e29c0a85d5c70aeab7198eb61298f4bed0ffd86d39e596122b1a84207a64", func := "loop.example/g01232/laws.FnLangfordThere", spec := "fnLangfordThere", unfollowed := true, recurses := true, apart := false }
def FnLangfordThereSaid : Prop := fnLangfordThereRow.holds Try.pinned (OpenSpec.ofChange fnLangfordThereSpec)

/-- ITS FALSE NEIGHBOUR: 'it returns false'. Refute it at one input. -/
def fnLangfordThereWrong : ChangeSpec := { name := "fnLangfordThere", fn := fun _ => fun
  | [d1, d2] => { results := [.lit (.bool false)], args := [d1, d2] }
  | _ => none }
def FnLangfordThereWrongFalsely : Prop := fnLangfordThereRow.holds Try.pinned (OpenSpec.ofChange fnLangfordThereWrong)

/-- 'laws.FnRowsThere': WHATEVER THE INPUT: true; the input reads as it did. -/
def fnRowsThereSpec : ChangeSpec := { name := "fnRowsThere", fn := fun _ => fun
  | [d1, d2] => { results := [.lit (.bool true)], args := [d1, d2] }
  | _ => none }
def fnRowsThereRow : OpenClaim := { program := "ytaohgllnoomaeaa", sum := "e436e29c0a85d5c70aeab7198eb61298f4bed0ffd86d39e596122b1a84207a64", func := "loop.example/g01232/laws.FnRowsThere", spec := "fnRowsThere", unfollowed := true, recurses := true, apart := false }
def FnRowsThereSaid : Prop := fnRowsThereRow.holds Try.pinned (OpenSpec.ofChange fnRowsThereSpec)

/-- ITS FALSE NEIGHBOUR: 'it returns false'. Refute it at one input. -/
def fnRowsThereWrong : ChangeSpec := { name := "fnRowsThere", fn := fun _ => fun
  | [d1, d2] => { results := [.lit (.bool false)], args := [d1, d2] }
  | _ => none }
def FnRowsThereWrongFalsely : Prop := fnRowsThereRow.holds Try.pinned (OpenSpec.ofChange fnRowsThereWrong)

/-- 'laws.FnRowsPaired': WHATEVER THE INPUT: true; the input reads as it did. -/
def fnRowsPairedSpec : ChangeSpec := { name := "fnRowsPaired", fn := fun _ => fun
  | [d1, d2] => { results := [.lit (.bool true)], args := [d1, d2] }
  | _ => none }
def fnRowsPairedRow : OpenClaim := { program := "ytaohgllnoomaeaa", sum := "e436e29c0a85d5c70aeab7198eb61298f4bed0ffd86d39e596122b1a84207a64", func := "loop.example/g01232/laws.FnRowsPaired", spec := "fnRowsPaired", apart := false }
def FnRowsPairedSaid : Prop := fnRowsPairedRow.holds Try.pinned (OpenSpec.ofChange fnRowsPairedSpec)

/-- ITS FALSE NEIGHBOUR: 'it returns false'. Refute it at one input. -/
def fnRowsPairedWrong : ChangeSpec := { name := "fnRowsPaired", fn := fun _ => fun
  | [d1, d2] => { results := [.lit (.bool false)], args := [d1, d2] }
  | _ => none }
def FnRowsPairedWrongFalsely : Prop := fnRowsPairedRow.holds Try.pinned (OpenSpec.ofChange fnRowsPairedWrong)

/-- 'laws.FnSkolemRanked': WHATEVER THE INPUT: true; the input reads as it did. -/
def fnSkolemRankedSpec : ChangeSpec := { name := "fnSkolemRanked", fn := fun _ => fun
  | [d1, d2] => { results := [.lit (.bool true)], args := [d1, d2] }
  | _ => none }
def fnSkolemRankedRow : OpenClaim := { program := "ytaohgllnoomaeaa", sum := "e436e29c0a85d5c70aeab7198eb61298f4bed0ffd86d39e596122b1a84207a64", func := "loop.example/g01232/laws.FnSkolemRanked", spec := "fnSkolemRanked", unfollowed := true, recurses := true, apart := false }
def FnSkolemRankedSaid : Prop := fnSkolemRankedRow.holds Try.pinned (OpenSpec.ofChange fnSkolemRankedSpec)

/-- ITS FALSE NEIGHBOUR: 'it returns false'. Refute it at one input. -/
def fnSkolemRankedWrong : ChangeSpec := { name := "fnSkolemRanked", fn := fun _ => fun
  | [d1, d2] => { results := [.lit (.bool false)], args := [d1, d2] }
  | _ => none }
def FnSkolemRankedWrongFalsely : Prop := fnSkolemRankedRow.holds Try.pinned (OpenSpec.ofChange fnSkolemRankedWrong)

/-- 'laws.FnPuzzlesMade': WHATEVER THE INPUT: true; the input reads as it did. -/
def fnPuzzlesMadeSpec : ChangeSpec := { name := "fnPuzzlesMade", fn := fun _ => fun
  | [d1, d2] => { results := [.lit (.bool true)], args := [d1, d2] }
  | _ => none }
def fnPuzzlesMadeRow : OpenClaim := { program := "ytaohgllnoomaeaa", sum := "e436e29c0a85d5c70aeab7198eb61298f4bed0ffd86d39e596122b1a84207a64", func := "loop.example/g01232/laws.FnPuzzlesMade", spec := "fnPuzzlesMade", unfollowed := true, recurses := true, apart := false }
def FnPuzzlesMadeSaid : Prop := fnPuzzlesMadeRow.holds Try.pinned (OpenSpec.ofChange fnPuzzlesMadeSpec)

/-- ITS FALSE NEIGHBOUR: 'it returns false'. Refute it at one input. -/
def fnPuzzlesMadeWrong : ChangeSpec := { name := "fnPuzzlesMade", fn := fun _ => fun
  | [d1, d2] => { results := [.lit (.bool false)], args := [d1, d2] }
  | _ => none }
def FnPuzzlesMadeWrongFalsely : Prop := fnPuzzlesMadeRow.holds Try.pinned (OpenSpec.ofChange fnPuzzlesMadeWrong)

/-- 'laws.FnHolesAnywhere': WHATEVER THE INPUT: true; the input reads as it did. -/
def fnHolesAnywhereSpec : ChangeSpec := { name := "fnHolesAnywhere", fn := fun _ => fun
  | [d1, d2] => { results := [.lit (.bool true)], args := [d1, d2] }
  | _ => none }
def fnHolesAnywhereRow : OpenClaim := { program := "ytaohgllnoomaeaa", sum := "e436e29c0a85d5c70aeab7198eb61298f4bed0ffd86d39e596122b1a84207a64", func := "loop.example/g01232/laws.FnHolesAnywhere", spec := "fnHolesAnywhere", unfollowed := true, recurses := true, apart := false }
def FnHolesAnywhereSaid : Prop := fnHolesAnywhereRow.holds Try.pinned (OpenSpec.ofChange fnHolesAnywhereSpec)

/-- ITS FALSE NEIGHBOUR: 'it returns false'. Refute it at one input. -/
def fnHolesAnywhereWrong : ChangeSpec := { name := "fnHolesAnywhere", fn := fun _ => fun
  | [d1, d2] => { results := [.lit (.bool false)], args := [d1, d2] }
  | _ => none }
def FnHolesAnywhereWrongFalsely : Prop := fnHolesAnywhereRow.holds Try.pinned (OpenSpec.ofChange fnHolesAnywhereWrong)

/-- 'laws.FnRowsJoined': WHATEVER THE INPUT: true; the input reads as it did. -/
def fnRowsJoinedSpec : ChangeSpec := { name := "fnRowsJoined", fn := fun _ => fun
  | [d1, d2] => { results := [.lit (.bool true)], args := [d1, d2] }
  | _ => none }
def fnRowsJoinedRow : OpenClaim := { program := "ytaohgllnoomaeaa", sum := "e436e29c0a85d5c70aeab7198eb61298f4bed0ffd86d39e596122b1a84207a64", func := "loop.example/g01232/laws.FnRowsJoined", spec := "fnRowsJoined", recurses := true, apart := false }
def FnRowsJoinedSaid : Prop := fnRowsJoinedRow.holds Try.pinned (OpenSpec.ofChange fnRowsJoinedSpec)

/-- ITS FALSE NEIGHBOUR: 'it returns false'. Refute it at one input. -/
def fnRowsJoinedWrong : ChangeSpec := { name := "fnRowsJoined", fn := fun _ => fun
  | [d1, d2] => { results := [.lit (.bool false)], args := [d1, d2] }
  | _ => none }
def FnRowsJoinedWrongFalsely : Prop := fnRowsJoinedRow.holds Try.pinned (OpenSpec.ofChange fnRowsJoinedWrong)

/- THE SECOND FORM. 'bulk': how many values and letters a reading holds, each counted each time it is reached (what is shared counts as often as it is met; a slice's spare places count too). A statement '..UptoSaid' is the law's where the arguments, and the package variables that the reading takes, are together of bulk at most 1048576: NARROWER than '..Said'. Prove '..Said' where nothing that the law and all that it calls make is longer than what came in: it says more and counts as full. Else prove '..UptoSaid'. A law counts once. -/
mutual
def uptoBulk {H : Type} : DataW H → Nat
  | .lit (.string bytes) => bytes.length + 1
  | .lit _ => 1
  | .nil => 1
  | .ptr d => uptoBulk d + 1
  | .slice elems spare => uptoBulkAll elems + uptoBulkAll spare + 1
  | .agg parts => uptoBulkAll parts + 1
  | .iface _ d => uptoBulk d + 1
  | .map entries => uptoBulkEntries entries + 1
  | .held _ => 1
def uptoBulkAll {H : Type} : List (DataW H) → Nat
  | [] => 0
  | d :: r => uptoBulk d + uptoBulkAll r
def uptoBulkEntries {H : Type} : List (Lit × DataW H) → Nat
  | [] => 0
  | x :: r => uptoBulkEntry x + uptoBulkEntries r
def uptoBulkEntry {H : Type} : Lit × DataW H → Nat
  | (.string bytes, d) => bytes.length + uptoBulk d + 1
  | (_, d) => uptoBulk d + 1
 end
def uptoSmall : (H : Type) → List (DataW H) → Bool := fun _ ds => decide (uptoBulkAll ds ≤ 1048576)
def OpenSpec.upto (s : _root_.Go.ChangeSpec) : _root_.Go.OpenSpec := { _root_.Go.OpenSpec.ofChange s with cond := some uptoSmall }

/-- 'laws.FnLangfordThere', WHERE WHAT IT READS IS OF BULK AT MOST 1048576: true; the input reads as it did. -/
def fnLangfordThereUptoRow : OpenClaim := { program := "ytaohgllnoomaeaa", sum := "e436e29c0a85d5c70aeab7198eb61298f4bed0ffd86d39e596122b1a84207a64", func := "loop.example/g01232/laws.FnLangfordThere", spec := "fnLangfordThere", unfollowed := true, recurses := true, apart := false, narrowed := true }
def FnLangfordThereUptoSaid : Prop := fnLangfordThereUptoRow.holds Try.pinned (OpenSpec.upto fnLangfordThereSpec)

/-- 'laws.FnRowsThere', WHERE WHAT IT READS IS OF BULK AT MOST 1048576: true; the input reads as it did. -/
def fnRowsThereUptoRow : OpenClaim := { program := "ytaohgllnoomaeaa", sum := "e436e29c0a85d5c70aeab7198eb61298f4bed0ffd86d39e596122b1a84207a64", func := "loop.example/g01232/laws.FnRowsThere", spec := "fnRowsThere", unfollowed := true, recurses := true, apart := false, narrowed := true }
def FnRowsThereUptoSaid : Prop := fnRowsThereUptoRow.holds Try.pinned (OpenSpec.upto fnRowsThereSpec)

/-- 'laws.FnRowsPaired', WHERE WHAT IT READS IS OF BULK AT MOST 1048576: true; the input reads as it did. -/
def fnRowsPairedUptoRow : OpenClaim := { program := "ytaohgllnoomaeaa", sum := "e436e29c0a85d5c70aeab7198eb61298f4bed0ffd86d39e596122b1a84207a64", func := "loop.example/g01232/laws.FnRowsPaired", spec := "fnRowsPaired", apart := false, narrowed := true }
def FnRowsPairedUptoSaid : Prop := fnRowsPairedUptoRow.holds Try.pinned (OpenSpec.upto fnRowsPairedSpec)

/-- 'laws.FnSkolemRanked', WHERE WHAT IT READS IS OF BULK AT MOST 1048576: true; the input reads as it did. -/
def fnSkolemRankedUptoRow : OpenClaim := { program := "ytaohgllnoomaeaa", sum := "e436e29c0a85d5c70aeab7198eb61298f4bed0ffd86d39e596122b1a84207a64", func := "loop.example/g01232/laws.FnSkolemRanked", spec := "fnSkolemRanked", unfollowed := true, recurses := true, apart := false, narrowed := true }
def FnSkolemRankedUptoSaid : Prop := fnSkolemRankedUptoRow.holds Try.pinned (OpenSpec.upto fnSkolemRankedSpec)

/-- 'laws.FnPuzzlesMade', WHERE WHAT IT READS IS OF BULK AT MOST 1048576: true; the input reads as it did. -/
def fnPuzzlesMadeUptoRow : OpenClaim := { program := "ytaohgllnoomaeaa", sum := "e436e29c0a85d5c70aeab7198eb61298f4bed0ffd86d39e596122b1a84207a64", func := "loop.example/g01232/laws.FnPuzzlesMade", spec := "fnPuzzlesMade", unfollowed := true, recurses := true, apart := false, narrowed := true }
def FnPuzzlesMadeUptoSaid : Prop := fnPuzzlesMadeUptoRow.holds Try.pinned (OpenSpec.upto fnPuzzlesMadeSpec)

/-- 'laws.FnHolesAnywhere', WHERE WHAT IT READS IS OF BULK AT MOST 1048576: true; the input reads as it did. -/
def fnHolesAnywhereUptoRow : OpenClaim := { program := "ytaohgllnoomaeaa", sum := "e436e29c0a85d5c70aeab7198eb61298f4bed0ffd86d39e596122b1a84207a64", func := "loop.example/g01232/laws.FnHolesAnywhere", spec := "fnHolesAnywhere", unfollowed := true, recurses := true, apart := false, narrowed := true }
def FnHolesAnywhereUptoSaid : Prop := fnHolesAnywhereUptoRow.holds Try.pinned (OpenSpec.upto fnHolesAnywhereSpec)

/-- 'laws.FnRowsJoined', WHERE WHAT IT READS IS OF BULK AT MOST 1048576: true; the input reads as it did. -/
def fnRowsJoinedUptoRow : OpenClaim := { program := "ytaohgllnoomaeaa", sum := "e436e29c0a85d5c70aeab7198eb61298f4bed0ffd86d39e596122b1a84207a64", func := "loop.example/g01232/laws.FnRowsJoined", spec := "fnRowsJoined", recurses := true, apart := false, narrowed := true }
def FnRowsJoinedUptoSaid : Prop := fnRowsJoinedUptoRow.holds Try.pinned (OpenSpec.upto fnRowsJoinedSpec)

end Rows
end Go.Proofs.Ytaohgllnoomaeaa
