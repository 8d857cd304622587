/-
  No cell of these rows narrows 'for every input' (looked for: loops, veiled, ifaces, maps, wideKeys, modest, calm, conditions, laid).
  DERIVED. THE GIVEN ROWS OF THIS SEAT. 12 by the template 'for every input the law returns true; each argument reads behind the call as it read before'; 0 by the template 'total and deterministic' (their statements: YtjfhcddahahdfaaTotals.lean).
  GIVEN WITH THE SEED: the statements are not yours to turn. If you find one false, say at which input.
  Laid BY PROGRAM, IN A SANDBOX (cutbox-rows.mjs): the forced cells as the released guide's own fill.sh prints them over the translation e6287f532defcafd… (all of the seat's roots in one cut). By AI agents, Wed Nov 11 2026. No macro, syntax, notation, axiom, sorry.
-/
import Derived.Test.YtjfhcddahahdfaaChecked
import GoSem.Claim
import GoSem.ClaimJoined
import GoSem.ClaimMapViews
import Derived.JoinedTies
import Derived.KernelRfl
namespace Go.Proofs.Ytjfhcddahahdfaa
/- THE CELL 'sum', in the pinned program and in every row, IS THE sha256 OF THE DUMP (.gsa) THAT YtjfhcddahahdfaaProg.lean LOADS. Nothing in Lean hashes anything: it is a label: what it is worth is what the hold of that sum in a sandbox is worth. -/
noncomputable def Try.pinned : Pinned := { name := "ytjfhcddahahdfaa", sum := "e6287f532defcafddcf0a225d8ecccf210a1b850467b60be6cbdb65c49ea0f89", checked := Try.checked }
namespace Rows
def none {H : Type} : Left H := { results := [], args := [] }

/-- 'laws.FnExactIsPuzzle': WHATEVER THE INPUT: true; the input reads as it did. -/
def fnExactIsPuzzleSpec : ChangeSpec := { name := "fnExactIsPuzzle", fn := fun _ => fun
  | [d] => { results := [.lit (.bool true)], args := [d] }
  | _ => none }
def fnExactIsPuzzleRow : OpenClaim := { program := "ytjfhcddahahdfaa", sum := "e6287f532defcafddcf0a225d8ecccf210a1b850467b60be6cbdb65c49ea0f89", func := "loop.example/g01232/laws.FnExactIsPuzzle", spec := "fnExactIsPuzzle", apart := false }
def FnExactIsPuzzleSaid : Prop := fnExactIsPuzzleRow.holds Try.pinned (OpenSpec.ofChange fnExactIsPuzzleSpec)

/-- ITS FALSE NEIGHBOUR: 'it returns false'. Refute it at one input. -/
def fnExactIsPuzzleWrong : ChangeSpec := { name := "fnExactIsPuzzle", fn := fun _ => fun
  | [d] => { results := [.lit (.bool false)], args := [d] }
  | _ => none }
def FnExactIsPuzzleWrongFalsely : Prop := fnExactIsPuzzleRow.holds Try.pinned (OpenSpec.ofChange fnExactIsPuzzleWrong)

/-- 'laws.FnExactGapsOf': WHATEVER THE INPUT: true; the input reads as it did. -/
def fnExactGapsOfSpec : ChangeSpec := { name := "fnExactGapsOf", fn := fun _ => fun
  | [d] => { results := [.lit (.bool true)], args := [d] }
  | _ => none }
def fnExactGapsOfRow : OpenClaim := { program := "ytjfhcddahahdfaa", sum := "e6287f532defcafddcf0a225d8ecccf210a1b850467b60be6cbdb65c49ea0f89", func := "loop.example/g01232/laws.FnExactGapsOf", spec := "fnExactGapsOf", apart := false }
def FnExactGapsOfSaid : Prop := fnExactGapsOfRow.holds Try.pinned (OpenSpec.ofChange fnExactGapsOfSpec)

/-- ITS FALSE NEIGHBOUR: 'it returns false'. Refute it at one input. -/
def fnExactGapsOfWrong : ChangeSpec := { name := "fnExactGapsOf", fn := fun _ => fun
  | [d] => { results := [.lit (.bool false)], args := [d] }
  | _ => none }
def FnExactGapsOfWrongFalsely : Prop := fnExactGapsOfRow.holds Try.pinned (OpenSpec.ofChange fnExactGapsOfWrong)

/-- 'laws.FnExactFillGap': WHATEVER THE INPUT: true; the input reads as it did. -/
def fnExactFillGapSpec : ChangeSpec := { name := "fnExactFillGap", fn := fun _ => fun
  | [d1, d2, d3] => { results := [.lit (.bool true)], args := [d1, d2, d3] }
  | _ => none }
def fnExactFillGapRow : OpenClaim := { program := "ytjfhcddahahdfaa", sum := "e6287f532defcafddcf0a225d8ecccf210a1b850467b60be6cbdb65c49ea0f89", func := "loop.example/g01232/laws.FnExactFillGap", spec := "fnExactFillGap", apart := false }
def FnExactFillGapSaid : Prop := fnExactFillGapRow.holds Try.pinned (OpenSpec.ofChange fnExactFillGapSpec)

/-- ITS FALSE NEIGHBOUR: 'it returns false'. Refute it at one input. -/
def fnExactFillGapWrong : ChangeSpec := { name := "fnExactFillGap", fn := fun _ => fun
  | [d1, d2, d3] => { results := [.lit (.bool false)], args := [d1, d2, d3] }
  | _ => none }
def FnExactFillGapWrongFalsely : Prop := fnExactFillGapRow.holds Try.pinned (OpenSpec.ofChange fnExactFillGapWrong)

/-- 'laws.FnExactOpenPlace': WHATEVER THE INPUT: true; the input reads as it did. -/
def fnExactOpenPlaceSpec : ChangeSpec := { name := "fnExactOpenPlace", fn := fun _ => fun
  | [d1, d2] => { results := [.lit (.bool true)], args := [d1, d2] }
  | _ => none }
def fnExactOpenPlaceRow : OpenClaim := { program := "ytjfhcddahahdfaa", sum := "e6287f532defcafddcf0a225d8ecccf210a1b850467b60be6cbdb65c49ea0f89", func := "loop.example/g01232/laws.FnExactOpenPlace", spec := "fnExactOpenPlace", apart := false }
def FnExactOpenPlaceSaid : Prop := fnExactOpenPlaceRow.holds Try.pinned (OpenSpec.ofChange fnExactOpenPlaceSpec)

/-- ITS FALSE NEIGHBOUR: 'it returns false'. Refute it at one input. -/
def fnExactOpenPlaceWrong : ChangeSpec := { name := "fnExactOpenPlace", fn := fun _ => fun
  | [d1, d2] => { results := [.lit (.bool false)], args := [d1, d2] }
  | _ => none }
def FnExactOpenPlaceWrongFalsely : Prop := fnExactOpenPlaceRow.holds Try.pinned (OpenSpec.ofChange fnExactOpenPlaceWrong)

/-- 'laws.FnExactBackPuzzle': WHATEVER THE INPUT: true; the input reads as it did. -/
def fnExactBackPuzzleSpec : ChangeSpec := { name := "fnExactBackPuzzle", fn := fun _ => fun
  | [d] => { results := [.lit (.bool true)], args := [d] }
  | _ => none }
def fnExactBackPuzzleRow : OpenClaim := { program := "ytjfhcddahahdfaa", sum := "e6287f532defcafddcf0a225d8ecccf210a1b850467b60be6cbdb65c49ea0f89", func := "loop.example/g01232/laws.FnExactBackPuzzle", spec := "fnExactBackPuzzle", apart := false }
def FnExactBackPuzzleSaid : Prop := fnExactBackPuzzleRow.holds Try.pinned (OpenSpec.ofChange fnExactBackPuzzleSpec)

/-- ITS FALSE NEIGHBOUR: 'it returns false'. Refute it at one input. -/
def fnExactBackPuzzleWrong : ChangeSpec := { name := "fnExactBackPuzzle", fn := fun _ => fun
  | [d] => { results := [.lit (.bool false)], args := [d] }
  | _ => none }
def FnExactBackPuzzleWrongFalsely : Prop := fnExactBackPuzzleRow.holds Try.pinned (OpenSpec.ofChange fnExactBackPuzzleWrong)

/-- 'laws.FnExactCountSolutions': WHATEVER THE INPUT: true; the input reads as it did. -/
def fnExactCountSolutionsSpec : ChangeSpec := { name := "fnExactCountSolutions", fn := fun _ => fun
  | [d] => { results := [.lit (.bool true)], args := [d] }
  | _ => none }
def fnExactCountSolutionsRow : OpenClaim := { program := "ytjfhcddahahdfaa", sum := "e6287f532defcafddcf0a225d8ecccf210a1b850467b60be6cbdb65c49ea0f89", func := "loop.example/g01232/laws.FnExactCountSolutions", spec := "fnExactCountSolutions", unfollowed := true, recurses := true, apart := false }
def FnExactCountSolutionsSaid : Prop := fnExactCountSolutionsRow.holds Try.pinned (OpenSpec.ofChange fnExactCountSolutionsSpec)

/-- ITS FALSE NEIGHBOUR: 'it returns false'. Refute it at one input. -/
def fnExactCountSolutionsWrong : ChangeSpec := { name := "fnExactCountSolutions", fn := fun _ => fun
  | [d] => { results := [.lit (.bool false)], args := [d] }
  | _ => none }
def FnExactCountSolutionsWrongFalsely : Prop := fnExactCountSolutionsRow.holds Try.pinned (OpenSpec.ofChange fnExactCountSolutionsWrong)

/-- 'laws.FnExactIsSolution': WHATEVER THE INPUT: true; the input reads as it did. -/
def fnExactIsSolutionSpec : ChangeSpec := { name := "fnExactIsSolution", fn := fun _ => fun
  | [d1, d2] => { results := [.lit (.bool true)], args := [d1, d2] }
  | _ => none }
def fnExactIsSolutionRow : OpenClaim := { program := "ytjfhcddahahdfaa", sum := "e6287f532defcafddcf0a225d8ecccf210a1b850467b60be6cbdb65c49ea0f89", func := "loop.example/g01232/laws.FnExactIsSolution", spec := "fnExactIsSolution", apart := false }
def FnExactIsSolutionSaid : Prop := fnExactIsSolutionRow.holds Try.pinned (OpenSpec.ofChange fnExactIsSolutionSpec)

/-- ITS FALSE NEIGHBOUR: 'it returns false'. Refute it at one input. -/
def fnExactIsSolutionWrong : ChangeSpec := { name := "fnExactIsSolution", fn := fun _ => fun
  | [d1, d2] => { results := [.lit (.bool false)], args := [d1, d2] }
  | _ => none }
def FnExactIsSolutionWrongFalsely : Prop := fnExactIsSolutionRow.holds Try.pinned (OpenSpec.ofChange fnExactIsSolutionWrong)

/-- 'laws.FnExactFirstSolution': WHATEVER THE INPUT: true; the input reads as it did. -/
def fnExactFirstSolutionSpec : ChangeSpec := { name := "fnExactFirstSolution", fn := fun _ => fun
  | [d] => { results := [.lit (.bool true)], args := [d] }
  | _ => none }
def fnExactFirstSolutionRow : OpenClaim := { program := "ytjfhcddahahdfaa", sum := "e6287f532defcafddcf0a225d8ecccf210a1b850467b60be6cbdb65c49ea0f89", func := "loop.example/g01232/laws.FnExactFirstSolution", spec := "fnExactFirstSolution", unfollowed := true, recurses := true, apart := false }
def FnExactFirstSolutionSaid : Prop := fnExactFirstSolutionRow.holds Try.pinned (OpenSpec.ofChange fnExactFirstSolutionSpec)

/-- ITS FALSE NEIGHBOUR: 'it returns false'. Refute it at one input. -/
def fnExactFirstSolutionWrong : ChangeSpec := { name := "fnExactFirstSolution", fn := fun _ => fun
  | [d] => { results := [.lit (.bool false)], args := [d] }
  | _ => none }
def FnExactFirstSolutionWrongFalsely : Prop := fnExactFirstSolutionRow.holds Try.pinned (OpenSpec.ofChange fnExactFirstSolutionWrong)

/-- 'laws.FnExactHintOf': WHATEVER THE INPUT: true; the input reads as it did. -/
def fnExactHintOfSpec : ChangeSpec := { name := "fnExactHintOf", fn := fun _ => fun
  | [d] => { results := [.lit (.bool true)], args := [d] }
  | _ => none }
def fnExactHintOfRow : OpenClaim := { program := "ytjfhcddahahdfaa", sum := "e6287f532defcafddcf0a225d8ecccf210a1b850467b60be6cbdb65c49ea0f89", func := "loop.example/g01232/laws.FnExactHintOf", spec := "fnExactHintOf", unfollowed := true, recurses := true, apart := false }
def FnExactHintOfSaid : Prop := fnExactHintOfRow.holds Try.pinned (OpenSpec.ofChange fnExactHintOfSpec)

/-- ITS FALSE NEIGHBOUR: 'it returns false'. Refute it at one input. -/
def fnExactHintOfWrong : ChangeSpec := { name := "fnExactHintOf", fn := fun _ => fun
  | [d] => { results := [.lit (.bool false)], args := [d] }
  | _ => none }
def FnExactHintOfWrongFalsely : Prop := fnExactHintOfRow.holds Try.pinned (OpenSpec.ofChange fnExactHintOfWrong)

/-- 'laws.FnExactSureNumbers': WHATEVER THE INPUT: true; the input reads as it did. -/
def fnExactSureNumbersSpec : ChangeSpec := { name := "fnExactSureNumbers", fn := fun _ => fun
  | [d] => { results := [.lit (.bool true)], args := [d] }
  | _ => none }
def fnExactSureNumbersRow : OpenClaim := { program := "ytjfhcddahahdfaa", sum := "e6287f532defcafddcf0a225d8ecccf210a1b850467b60be6cbdb65c49ea0f89", func := "loop.example/g01232/laws.FnExactSureNumbers", spec := "fnExactSureNumbers", unfollowed := true, recurses := true, apart := false }
def FnExactSureNumbersSaid : Prop := fnExactSureNumbersRow.holds Try.pinned (OpenSpec.ofChange fnExactSureNumbersSpec)

/-- ITS FALSE NEIGHBOUR: 'it returns false'. Refute it at one input. -/
def fnExactSureNumbersWrong : ChangeSpec := { name := "fnExactSureNumbers", fn := fun _ => fun
  | [d] => { results := [.lit (.bool false)], args := [d] }
  | _ => none }
def FnExactSureNumbersWrongFalsely : Prop := fnExactSureNumbersRow.holds Try.pinned (OpenSpec.ofChange fnExactSureNumbersWrong)

/-- 'laws.FnExactSolutions': WHATEVER THE INPUT: true; the input reads as it did. -/
def fnExactSolutionsSpec : ChangeSpec := { name := "fnExactSolutions", fn := fun _ => fun
  | [d] => { results := [.lit (.bool true)], args := [d] }
  | _ => none }
def fnExactSolutionsRow : OpenClaim := { program := "ytjfhcddahahdfaa", sum := "e6287f532defcafddcf0a225d8ecccf210a1b850467b60be6cbdb65c49ea0f89", func := "loop.example/g01232/laws.FnExactSolutions", spec := "fnExactSolutions", unfollowed := true, recurses := true, apart := false }
def FnExactSolutionsSaid : Prop := fnExactSolutionsRow.holds Try.pinned (OpenSpec.ofChange fnExactSolutionsSpec)

/-- ITS FALSE NEIGHBOUR: 'it returns false'. Refute it at one input. -/
def fnExactSolutionsWrong : ChangeSpec := { name := "fnExactSolutions", fn := fun _ => fun
  | [d] => { results := [.lit (.bool false)], args := [d] }
  | _ => none }
def FnExactSolutionsWrongFalsely : Prop := fnExactSolutionsRow.holds Try.pinned (OpenSpec.ofChange fnExactSolutionsWrong)

/-- 'laws.FnExactHarderPuzzle': WHATEVER THE INPUT: true; the input reads as it did. -/
def fnExactHarderPuzzleSpec : ChangeSpec := { name := "fnExactHarderPuzzle", fn := fun _ => fun
  | [d] => { results := [.lit (.bool true)], args := [d] }
  | _ => none }
def fnExactHarderPuzzleRow : OpenClaim := { program := "ytjfhcddahahdfaa", sum := "e6287f532defcafddcf0a225d8ecccf210a1b850467b60be6cbdb65c49ea0f89", func := "loop.example/g01232/laws.FnExactHarderPuzzle", spec := "fnExactHarderPuzzle", unfollowed := true, recurses := true, apart := false }
def FnExactHarderPuzzleSaid : Prop := fnExactHarderPuzzleRow.holds Try.pinned (OpenSpec.ofChange fnExactHarderPuzzleSpec)

/-- ITS FALSE NEIGHBOUR: 'it returns false'. Refute it at one input. -/
def fnExactHarderPuzzleWrong : ChangeSpec := { name := "fnExactHarderPuzzle", fn := fun _ => fun
  | [d] => { results := [.lit (.bool false)], args := [d] }
  | _ => none }
def FnExactHarderPuzzleWrongFalsely : Prop := fnExactHarderPuzzleRow.holds Try.pinned (OpenSpec.ofChange fnExactHarderPuzzleWrong)

/- THE SECOND FORM. 'bulk': how many values and letters a reading holds, each counted each time it is reached (what is shared counts as often as it is met; a slice's spare places count too). A statement '..UptoSaid' is the law's where the arguments, and the package variables that the reading takes, are together of bulk at most 1048576: NARROWER than '..Said'. Prove '..Said' where nothing that the law and all that it calls make is longer than what came in: it says more and counts as full. Else prove '..UptoSaid'. A law counts once. -/
mutual
def uptoBulk {H : Type} : DataW H → Nat
  | .lit (.string bytes) => bytes.length + 1
  | .lit _ => 1
  | .nil => 1
  | .ptr d => uptoBulk d + 1
  | .slice elems spare => uptoBulkAll elems + uptoBulkAll spare + 1
  | .agg parts => uptoBulkAll parts + 1
  | .iface _ d => uptoBulk d + 1
  | .map entries => uptoBulkEntries entries + 1
  | .held _ => 1
def uptoBulkAll {H : Type} : List (DataW H) → Nat
  | [] => 0
  | d :: r => uptoBulk d + uptoBulkAll r
def uptoBulkEntries {H : Type} : List (Lit × DataW H) → Nat
  | [] => 0
  | x :: r => uptoBulkEntry x + uptoBulkEntries r
def uptoBulkEntry {H : Type} : Lit × DataW H → Nat
  | (.string bytes, d) => bytes.length + uptoBulk d + 1
  | (_, d) => uptoBulk d + 1
 end
def uptoSmall : (H : Type) → List (DataW H) → Bool := fun _ ds => decide (uptoBulkAll ds ≤ 1048576)
def OpenSpec.upto (s : _root_.Go.ChangeSpec) : _root_.Go.OpenSpec := { _root_.Go.OpenSpec.ofChange s with cond := some uptoSmall }

/-- 'laws.FnExactIsPuzzle', WHERE WHAT IT READS IS OF BULK AT MOST 1048576: true; the input reads as it did. -/
def fnExactIsPuzzleUptoRow : OpenClaim := { program := "ytjfhcddahahdfaa", sum := "e6287f532defcafddcf0a225d8ecccf210a1b850467b60be6cbdb65c49ea0f89", func := "loop.example/g01232/laws.FnExactIsPuzzle", spec := "fnExactIsPuzzle", apart := false, narrowed := true }
def FnExactIsPuzzleUptoSaid : Prop := fnExactIsPuzzleUptoRow.holds Try.pinned (OpenSpec.upto fnExactIsPuzzleSpec)

/-- 'laws.FnExactGapsOf', WHERE WHAT IT READS IS OF BULK AT MOST 1048576: true; the input reads as it did. -/
def fnExactGapsOfUptoRow : OpenClaim := { program := "ytjfhcddahahdfaa", sum := "e6287f532defcafddcf0a225d8ecccf210a1b850467b60be6cbdb65c49ea0f89", func := "loop.example/g01232/laws.FnExactGapsOf", spec := "fnExactGapsOf", apart := false, narrowed := true }
def FnExactGapsOfUptoSaid : Prop := fnExactGapsOfUptoRow.holds Try.pinned (OpenSpec.upto fnExactGapsOfSpec)

/-- 'laws.FnExactFillGap', WHERE WHAT IT READS IS OF BULK AT MOST 1048576: true; the input reads as it did. -/
def fnExactFillGapUptoRow : OpenClaim := { program := "ytjfhcddahahdfaa", sum := "e6287f532defcafddcf0a225d8ecccf210a1b850467b60be6cbdb65c49ea0f89", func := "loop.example/g01232/laws.FnExactFillGap", spec := "fnExactFillGap", apart := false, narrowed := true }
def FnExactFillGapUptoSaid : Prop := fnExactFillGapUptoRow.holds Try.pinned (OpenSpec.upto fnExactFillGapSpec)

/-- 'laws.FnExactOpenPlace', WHERE WHAT IT READS IS OF BULK AT MOST 1048576: true; the input reads as it did. -/
def fnExactOpenPlaceUptoRow : OpenClaim := { program := "ytjfhcddahahdfaa", sum := "e6287f532defcafddcf0a225d8ecccf210a1b850467b60be6cbdb65c49ea0f89", func := "loop.example/g01232/laws.FnExactOpenPlace", spec := "fnExactOpenPlace", apart := false, narrowed := true }
def FnExactOpenPlaceUptoSaid : Prop := fnExactOpenPlaceUptoRow.holds Try.pinned (OpenSpec.upto fnExactOpenPlaceSpec)

/-- 'laws.FnExactBackPuzzle', WHERE WHAT IT READS IS OF BULK AT MOST 1048576: true; the input reads as it did. -/
def fnExactBackPuzzleUptoRow : OpenClaim := { program := "ytjfhcddahahdfaa", sum := "e6287f532defcafddcf0a225d8ecccf210a1b850467b60be6cbdb65c49ea0f89", func := "loop.example/g01232/laws.FnExactBackPuzzle", spec := "fnExactBackPuzzle", apart := false, narrowed := true }
def FnExactBackPuzzleUptoSaid : Prop := fnExactBackPuzzleUptoRow.holds Try.pinned (OpenSpec.upto fnExactBackPuzzleSpec)

/-- 'laws.FnExactCountSolutions', WHERE WHAT IT READS IS OF BULK AT MOST 1048576: true; the input reads as it did. -/
def fnExactCountSolutionsUptoRow : OpenClaim := { program := "ytjfhcddahahdfaa", sum := "e6287f532defcafddcf0a225d8ecccf210a1b850467b60be6cbdb65c49ea0f89", func := "loop.example/g01232/laws.FnExactCountSolutions", spec := "fnExactCountSolutions", unfollowed := true, recurses := true, apart := false, narrowed := true }
def FnExactCountSolutionsUptoSaid : Prop := fnExactCountSolutionsUptoRow.holds Try.pinned (OpenSpec.upto fnExactCountSolutionsSpec)

/-- 'laws.FnExactIsSolution', WHERE WHAT IT READS IS OF BULK AT MOST 1048576: true; the input reads as it did. -/
def fnExactIsSolutionUptoRow : OpenClaim := { program := "ytjfhcddahahdfaa", sum := "e6287f532defcafddcf0a225d8ecccf210a1b850467b60be6cbdb65c49ea0f89", func := "loop.example/g01232/laws.FnExactIsSolution", spec := "fnExactIsSolution", apart := false, narrowed := true }
def FnExactIsSolutionUptoSaid : Prop := fnExactIsSolutionUptoRow.holds Try.pinned (OpenSpec.upto fnExactIsSolutionSpec)

/-- 'laws.FnExactFirstSolution', WHERE WHAT IT READS IS OF BULK AT MOST 1048576: true; the input reads as it did. -/
def fnExactFirstSolutionUptoRow : OpenClaim := { program := "ytjfhcddahahdfaa", sum := "e6287f532defcafddcf0a225d8ecccf210a1b850467b60be6cbdb65c49ea0f89", func := "loop.example/g01232/laws.FnExactFirstSolution", spec := "fnExactFirstSolution", unfollowed := true, recurses := true, apart := false, narrowed := true }
def FnExactFirstSolutionUptoSaid : Prop := fnExactFirstSolutionUptoRow.holds Try.pinned (OpenSpec.upto fnExactFirstSolutionSpec)

/-- 'laws.FnExactHintOf', WHERE WHAT IT READS IS OF BULK AT MOST 1048576: true; the input reads as it did. -/
def fnExactHintOfUptoRow : OpenClaim := { program := "ytjfhcddahahdfaa", sum := "e6287f532defcafddcf0a225d8ecccf210a1b850467b60be6cbdb65c49ea0f89", func := "loop.example/g01232/laws.FnExactHintOf", spec := "fnExactHintOf", unfollowed := true, recurses := true, apart := false, narrowed := true }
def FnExactHintOfUptoSaid : Prop := fnExactHintOfUptoRow.holds Try.pinned (OpenSpec.upto fnExactHintOfSpec)

/-- 'laws.FnExactSureNumbers', WHERE WHAT IT READS IS OF BULK AT MOST 1048576: true; the input reads as it did. -/
def fnExactSureNumbersUptoRow : OpenClaim := { program := "ytjfhcddahahdfaa", sum := "e6287f532defcafddcf0a225d8ecccf210a1b850467b60be6cbdb65c49ea0f89", func := "loop.example/g01232/laws.FnExactSureNumbers", spec := "fnExactSureNumbers", unfollowed := true, recurses := true, apart := false, narrowed := true }
def FnExactSureNumbersUptoSaid : Prop := fnExactSureNumbersUptoRow.holds Try.pinned (OpenSpec.upto fnExactSureNumbersSpec)

/-- 'laws.FnExactSolutions', WHERE WHAT IT READS IS OF BULK AT MOST 1048576: true; the input reads as it did. -/
def fnExactSolutionsUptoRow : OpenClaim := { program := "ytjfhcddahahdfaa", sum := "e6287f532defcafddcf0a225d8ecccf210a1b850467b60be6cbdb65c49ea0f89", func := "loop.example/g01232/laws.FnExactSolutions", spec := "fnExactSolutions", unfollowed := true, recurses := true, apart := false, narrowed := true }
def FnExactSolutionsUptoSaid : Prop := fnExactSolutionsUptoRow.holds Try.pinned (OpenSpec.upto fnExactSolutionsSpec)

/-- 'laws.FnExactHarderPuzzle', WHERE WHAT IT READS IS OF BULK AT MOST 1048576: true; the input reads as it did. -/
def fnExactHarderPuzzleUptoRow : OpenClaim := { program := "ytjfhcddahahdfaa", sum := "e6287f532defcafddcf0a225d8ecccf210a1b850467b60be6cbdb65c49ea0f89", func := "loop.example/g01232/laws.FnExactHarderPuzzle", spec := "fnExactHarderPuzzle", unfollowed := true, recurses := true, apart := false, narrowed := true }
def FnExactHarderPuzzleUptoSaid : Prop := fnExactHarderPuzzleUptoRow.holds Try.pinned (OpenSpec.upto fnExactHarderPuzzleSpec)

end Rows
end Go.Proofs.Ytjfhcddahahdfaa
