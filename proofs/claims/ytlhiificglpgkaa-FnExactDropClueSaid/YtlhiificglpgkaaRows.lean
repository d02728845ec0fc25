/-
  No cell of these rows narrows 'for every input' (looked for: loops, veiled, ifaces, maps, wideKeys, modest, calm, conditions, laid).
  DERIVED. THE GIVEN ROWS OF THIS SEAT. 12 by the template 'for every input the law returns true; each argument reads behind the call as it read before'; 0 by the template 'total and deterministic' (their statements: YtlhiificglpgkaaTotals.lean).
  GIVEN WITH THE SEED: the statements are not yours to turn. If you find one false, say at which input.
  Laid BY PROGRAM, IN A SANDBOX (cutbox-rows.mjs): the forced cells as the released guide's own fill.sh prints them over the translation 484be0102565445f… (all of the seat's roots in one cut). By AI agents, Wed Nov 11 2026. No macro, syntax, notation, axiom, sorry.
-/
import Derived.Test.YtlhiificglpgkaaChecked
import GoSem.Claim
import GoSem.ClaimJoined
import GoSem.ClaimMapViews
import Derived.JoinedTies
import Derived.KernelRfl
namespace Go.Proofs.Ytlhiificglpgkaa
/- THE CELL 'sum', in the pinned program and in every row, IS THE sha256 OF THE DUMP (.gsa) THAT YtlhiificglpgkaaProg.lean LOADS. Nothing in Lean hashes anything: it is a label: what it is worth is what the hold of that sum in a sandbox is worth. -/
noncomputable def Try.pinned : Pinned := { name := "ytlhiificglpgkaa", sum := "484be0102565445f27b18d4cf0788459249decc0b74263d8ffea786947cad9d3", checked := Try.checked }
namespace Rows
def none {H : Type} : Left H := { results := [], args := [] }

/-- 'laws.FnExactIsPuzzle': WHATEVER THE INPUT: true; the input reads as it did. -/
def fnExactIsPuzzleSpec : ChangeSpec := { name := "fnExactIsPuzzle", fn := fun _ => fun
  | [d] => { results := [.lit (.bool true)], args := [d] }
  | _ => none }
def fnExactIsPuzzleRow : OpenClaim := { program := "ytlhiificglpgkaa", sum := "484be0102565445f27b18d4cf0788459249decc0b74263d8ffea786947cad9d3", func := "loop.example/g01259/laws.FnExactIsPuzzle", spec := "fnExactIsPuzzle", unfollowed := true, recurses := true, apart := false }
def FnExactIsPuzzleSaid : Prop := fnExactIsPuzzleRow.holds Try.pinned (OpenSpec.ofChange fnExactIsPuzzleSpec)

/-- ITS FALSE NEIGHBOUR: 'it returns false'. Refute it at one input. -/
def fnExactIsPuzzleWrong : ChangeSpec := { name := "fnExactIsPuzzle", fn := fun _ => fun
  | [d] => { results := [.lit (.bool false)], args := [d] }
  | _ => none }
def FnExactIsPuzzleWrongFalsely : Prop := fnExactIsPuzzleRow.holds Try.pinned (OpenSpec.ofChange fnExactIsPuzzleWrong)

/-- 'laws.FnExactDoesFit': WHATEVER THE INPUT: true; the input reads as it did. -/
def fnExactDoesFitSpec : ChangeSpec := { name := "fnExactDoesFit", fn := fun _ => fun
  | [d1, d2, d3] => { results := [.lit (.bool true)], args := [d1, d2, d3] }
  | _ => none }
def fnExactDoesFitRow : OpenClaim := { program := "ytlhiificglpgkaa", sum := "484be0102565445f27b18d4cf0788459249decc0b74263d8ffea786947cad9d3", func := "loop.example/g01259/laws.FnExactDoesFit", spec := "fnExactDoesFit", apart := false }
def FnExactDoesFitSaid : Prop := fnExactDoesFitRow.holds Try.pinned (OpenSpec.ofChange fnExactDoesFitSpec)

/-- ITS FALSE NEIGHBOUR: 'it returns false'. Refute it at one input. -/
def fnExactDoesFitWrong : ChangeSpec := { name := "fnExactDoesFit", fn := fun _ => fun
  | [d1, d2, d3] => { results := [.lit (.bool false)], args := [d1, d2, d3] }
  | _ => none }
def FnExactDoesFitWrongFalsely : Prop := fnExactDoesFitRow.holds Try.pinned (OpenSpec.ofChange fnExactDoesFitWrong)

/-- 'laws.FnExactAddClue': WHATEVER THE INPUT: true; the input reads as it did. -/
def fnExactAddClueSpec : ChangeSpec := { name := "fnExactAddClue", fn := fun _ => fun
  | [d1, d2] => { results := [.lit (.bool true)], args := [d1, d2] }
  | _ => none }
def fnExactAddClueRow : OpenClaim := { program := "ytlhiificglpgkaa", sum := "484be0102565445f27b18d4cf0788459249decc0b74263d8ffea786947cad9d3", func := "loop.example/g01259/laws.FnExactAddClue", spec := "fnExactAddClue", unfollowed := true, recurses := true, apart := false }
def FnExactAddClueSaid : Prop := fnExactAddClueRow.holds Try.pinned (OpenSpec.ofChange fnExactAddClueSpec)

/-- ITS FALSE NEIGHBOUR: 'it returns false'. Refute it at one input. -/
def fnExactAddClueWrong : ChangeSpec := { name := "fnExactAddClue", fn := fun _ => fun
  | [d1, d2] => { results := [.lit (.bool false)], args := [d1, d2] }
  | _ => none }
def FnExactAddClueWrongFalsely : Prop := fnExactAddClueRow.holds Try.pinned (OpenSpec.ofChange fnExactAddClueWrong)

/-- 'laws.FnExactMakePuzzle': WHATEVER THE INPUT: true; the input reads as it did. -/
def fnExactMakePuzzleSpec : ChangeSpec := { name := "fnExactMakePuzzle", fn := fun _ => fun
  | [d1, d2, d3, d4] => { results := [.lit (.bool true)], args := [d1, d2, d3, d4] }
  | _ => none }
def fnExactMakePuzzleRow : OpenClaim := { program := "ytlhiificglpgkaa", sum := "484be0102565445f27b18d4cf0788459249decc0b74263d8ffea786947cad9d3", func := "loop.example/g01259/laws.FnExactMakePuzzle", spec := "fnExactMakePuzzle", unfollowed := true, recurses := true, apart := false }
def FnExactMakePuzzleSaid : Prop := fnExactMakePuzzleRow.holds Try.pinned (OpenSpec.ofChange fnExactMakePuzzleSpec)

/-- ITS FALSE NEIGHBOUR: 'it returns false'. Refute it at one input. -/
def fnExactMakePuzzleWrong : ChangeSpec := { name := "fnExactMakePuzzle", fn := fun _ => fun
  | [d1, d2, d3, d4] => { results := [.lit (.bool false)], args := [d1, d2, d3, d4] }
  | _ => none }
def FnExactMakePuzzleWrongFalsely : Prop := fnExactMakePuzzleRow.holds Try.pinned (OpenSpec.ofChange fnExactMakePuzzleWrong)

/-- 'laws.FnExactDropClue': WHATEVER THE INPUT: true; the input reads as it did. -/
def fnExactDropClueSpec : ChangeSpec := { name := "fnExactDropClue", fn := fun _ => fun
  | [d1, d2] => { results := [.lit (.bool true)], args := [d1, d2] }
  | _ => none }
def fnExactDropClueRow : OpenClaim := { program := "ytlhiificglpgkaa", sum := "484be0102565445f27b18d4cf0788459249decc0b74263d8ffea786947cad9d3", func := "loop.example/g01259/laws.FnExactDropClue", spec := "fnExactDropClue", unfollowed := true, recurses := true, apart := false }
def FnExactDropClueSaid : Prop := fnExactDropClueRow.holds Try.pinned (OpenSpec.ofChange fnExactDropClueSpec)

/-- ITS FALSE NEIGHBOUR: 'it returns false'. Refute it at one input. -/
def fnExactDropClueWrong : ChangeSpec := { name := "fnExactDropClue", fn := fun _ => fun
  | [d1, d2] => { results := [.lit (.bool false)], args := [d1, d2] }
  | _ => none }
def FnExactDropClueWrongFalsely : Prop := fnExactDropClueRow.holds Try.pinned (OpenSpec.ofChange fnExactDropClueWrong)

/-- 'laws.FnExactCountSolutions': WHATEVER THE INPUT: true; the input reads as it did. -/
def fnExactCountSolutionsSpec : ChangeSpec := { name := "fnExactCountSolutions", fn := fun _ => fun
  | [d] => { results := [.lit (.bool true)], args := [d] }
  | _ => none }
def fnExactCountSolutionsRow : OpenClaim := { program := "ytlhiificglpgkaa", sum := "484be0102565445f27b18d4cf0788459249decc0b74263d8ffea786947cad9d3", func := "loop.example/g01259/laws.FnExactCountSolutions", spec := "fnExactCountSolutions", unfollowed := true, recurses := true, apart := false }
def FnExactCountSolutionsSaid : Prop := fnExactCountSolutionsRow.holds Try.pinned (OpenSpec.ofChange fnExactCountSolutionsSpec)

/-- ITS FALSE NEIGHBOUR: 'it returns false'. Refute it at one input. -/
def fnExactCountSolutionsWrong : ChangeSpec := { name := "fnExactCountSolutions", fn := fun _ => fun
  | [d] => { results := [.lit (.bool false)], args := [d] }
  | _ => none }
def FnExactCountSolutionsWrongFalsely : Prop := fnExactCountSolutionsRow.holds Try.pinned (OpenSpec.ofChange fnExactCountSolutionsWrong)

/-- 'laws.FnExactIsSolved': WHATEVER THE INPUT: true; the input reads as it did. -/
def fnExactIsSolvedSpec : ChangeSpec := { name := "fnExactIsSolved", fn := fun _ => fun
  | [d] => { results := [.lit (.bool true)], args := [d] }
  | _ => none }
def fnExactIsSolvedRow : OpenClaim := { program := "ytlhiificglpgkaa", sum := "484be0102565445f27b18d4cf0788459249decc0b74263d8ffea786947cad9d3", func := "loop.example/g01259/laws.FnExactIsSolved", spec := "fnExactIsSolved", unfollowed := true, recurses := true, apart := false }
def FnExactIsSolvedSaid : Prop := fnExactIsSolvedRow.holds Try.pinned (OpenSpec.ofChange fnExactIsSolvedSpec)

/-- ITS FALSE NEIGHBOUR: 'it returns false'. Refute it at one input. -/
def fnExactIsSolvedWrong : ChangeSpec := { name := "fnExactIsSolved", fn := fun _ => fun
  | [d] => { results := [.lit (.bool false)], args := [d] }
  | _ => none }
def FnExactIsSolvedWrongFalsely : Prop := fnExactIsSolvedRow.holds Try.pinned (OpenSpec.ofChange fnExactIsSolvedWrong)

/-- 'laws.FnExactBestClue': WHATEVER THE INPUT: true; the input reads as it did. -/
def fnExactBestClueSpec : ChangeSpec := { name := "fnExactBestClue", fn := fun _ => fun
  | [d] => { results := [.lit (.bool true)], args := [d] }
  | _ => none }
def fnExactBestClueRow : OpenClaim := { program := "ytlhiificglpgkaa", sum := "484be0102565445f27b18d4cf0788459249decc0b74263d8ffea786947cad9d3", func := "loop.example/g01259/laws.FnExactBestClue", spec := "fnExactBestClue", unfollowed := true, recurses := true, apart := false }
def FnExactBestClueSaid : Prop := fnExactBestClueRow.holds Try.pinned (OpenSpec.ofChange fnExactBestClueSpec)

/-- ITS FALSE NEIGHBOUR: 'it returns false'. Refute it at one input. -/
def fnExactBestClueWrong : ChangeSpec := { name := "fnExactBestClue", fn := fun _ => fun
  | [d] => { results := [.lit (.bool false)], args := [d] }
  | _ => none }
def FnExactBestClueWrongFalsely : Prop := fnExactBestClueRow.holds Try.pinned (OpenSpec.ofChange fnExactBestClueWrong)

/-- 'laws.FnExactFirstSolution': WHATEVER THE INPUT: true; the input reads as it did. -/
def fnExactFirstSolutionSpec : ChangeSpec := { name := "fnExactFirstSolution", fn := fun _ => fun
  | [d] => { results := [.lit (.bool true)], args := [d] }
  | _ => none }
def fnExactFirstSolutionRow : OpenClaim := { program := "ytlhiificglpgkaa", sum := "484be0102565445f27b18d4cf0788459249decc0b74263d8ffea786947cad9d3", func := "loop.example/g01259/laws.FnExactFirstSolution", spec := "fnExactFirstSolution", unfollowed := true, recurses := true, apart := false }
def FnExactFirstSolutionSaid : Prop := fnExactFirstSolutionRow.holds Try.pinned (OpenSpec.ofChange fnExactFirstSolutionSpec)

/-- ITS FALSE NEIGHBOUR: 'it returns false'. Refute it at one input. -/
def fnExactFirstSolutionWrong : ChangeSpec := { name := "fnExactFirstSolution", fn := fun _ => fun
  | [d] => { results := [.lit (.bool false)], args := [d] }
  | _ => none }
def FnExactFirstSolutionWrongFalsely : Prop := fnExactFirstSolutionRow.holds Try.pinned (OpenSpec.ofChange fnExactFirstSolutionWrong)

/-- 'laws.FnExactMovePeg': WHATEVER THE INPUT: true; the input reads as it did. -/
def fnExactMovePegSpec : ChangeSpec := { name := "fnExactMovePeg", fn := fun _ => fun
  | [d1, d2] => { results := [.lit (.bool true)], args := [d1, d2] }
  | _ => none }
def fnExactMovePegRow : OpenClaim := { program := "ytlhiificglpgkaa", sum := "484be0102565445f27b18d4cf0788459249decc0b74263d8ffea786947cad9d3", func := "loop.example/g01259/laws.FnExactMovePeg", spec := "fnExactMovePeg", apart := false }
def FnExactMovePegSaid : Prop := fnExactMovePegRow.holds Try.pinned (OpenSpec.ofChange fnExactMovePegSpec)

/-- ITS FALSE NEIGHBOUR: 'it returns false'. Refute it at one input. -/
def fnExactMovePegWrong : ChangeSpec := { name := "fnExactMovePeg", fn := fun _ => fun
  | [d1, d2] => { results := [.lit (.bool false)], args := [d1, d2] }
  | _ => none }
def FnExactMovePegWrongFalsely : Prop := fnExactMovePegRow.holds Try.pinned (OpenSpec.ofChange fnExactMovePegWrong)

/-- 'laws.FnExactJoinMoves': WHATEVER THE INPUT: true; the input reads as it did. -/
def fnExactJoinMovesSpec : ChangeSpec := { name := "fnExactJoinMoves", fn := fun _ => fun
  | [d1, d2] => { results := [.lit (.bool true)], args := [d1, d2] }
  | _ => none }
def fnExactJoinMovesRow : OpenClaim := { program := "ytlhiificglpgkaa", sum := "484be0102565445f27b18d4cf0788459249decc0b74263d8ffea786947cad9d3", func := "loop.example/g01259/laws.FnExactJoinMoves", spec := "fnExactJoinMoves", apart := false }
def FnExactJoinMovesSaid : Prop := fnExactJoinMovesRow.holds Try.pinned (OpenSpec.ofChange fnExactJoinMovesSpec)

/-- ITS FALSE NEIGHBOUR: 'it returns false'. Refute it at one input. -/
def fnExactJoinMovesWrong : ChangeSpec := { name := "fnExactJoinMoves", fn := fun _ => fun
  | [d1, d2] => { results := [.lit (.bool false)], args := [d1, d2] }
  | _ => none }
def FnExactJoinMovesWrongFalsely : Prop := fnExactJoinMovesRow.holds Try.pinned (OpenSpec.ofChange fnExactJoinMovesWrong)

/-- 'laws.FnExactBackMove': WHATEVER THE INPUT: true; the input reads as it did. -/
def fnExactBackMoveSpec : ChangeSpec := { name := "fnExactBackMove", fn := fun _ => fun
  | [d] => { results := [.lit (.bool true)], args := [d] }
  | _ => none }
def fnExactBackMoveRow : OpenClaim := { program := "ytlhiificglpgkaa", sum := "484be0102565445f27b18d4cf0788459249decc0b74263d8ffea786947cad9d3", func := "loop.example/g01259/laws.FnExactBackMove", spec := "fnExactBackMove", apart := false }
def FnExactBackMoveSaid : Prop := fnExactBackMoveRow.holds Try.pinned (OpenSpec.ofChange fnExactBackMoveSpec)

/-- ITS FALSE NEIGHBOUR: 'it returns false'. Refute it at one input. -/
def fnExactBackMoveWrong : ChangeSpec := { name := "fnExactBackMove", fn := fun _ => fun
  | [d] => { results := [.lit (.bool false)], args := [d] }
  | _ => none }
def FnExactBackMoveWrongFalsely : Prop := fnExactBackMoveRow.holds Try.pinned (OpenSpec.ofChange fnExactBackMoveWrong)

/- THE SECOND FORM. 'bulk': how many values and letters a reading holds, each counted each time it is reached (what is shared counts as often as it is met; a slice's spare places count too). A statement '..UptoSaid' is the law's where the arguments, and the package variables that the reading takes, are together of bulk at most 1048576: NARROWER than '..Said'. Prove '..Said' where nothing that the law and all that it calls make is longer than what came in: it says more and counts as full. Else prove '..UptoSaid'. A law counts once. -/
mutual
def uptoBulk {H : Type} : DataW H → Nat
  | .lit (.string bytes) => bytes.length + 1
  | .lit _ => 1
  | .nil => 1
  | .ptr d => uptoBulk d + 1
  | .slice elems spare => uptoBulkAll elems + uptoBulkAll spare + 1
  | .agg parts => uptoBulkAll parts + 1
  | .iface _ d => uptoBulk d + 1
  | .map entries => uptoBulkEntries entries + 1
  | .held _ => 1
def uptoBulkAll {H : Type} : List (DataW H) → Nat
  | [] => 0
  | d :: r => uptoBulk d + uptoBulkAll r
def uptoBulkEntries {H : Type} : List (Lit × DataW H) → Nat
  | [] => 0
  | x :: r => uptoBulkEntry x + uptoBulkEntries r
def uptoBulkEntry {H : Type} : Lit × DataW H → Nat
  | (.string bytes, d) => bytes.length + uptoBulk d + 1
  | (_, d) => uptoBulk d + 1
 end
def uptoSmall : (H : Type) → List (DataW H) → Bool := fun _ ds => decide (uptoBulkAll ds ≤ 1048576)
def OpenSpec.upto (s : _root_.Go.ChangeSpec) : _root_.Go.OpenSpec := { _root_.Go.OpenSpec.ofChange s with cond := some uptoSmall }

/-- 'laws.FnExactIsPuzzle', WHERE WHAT IT READS IS OF BULK AT MOST 1048576: true; the input reads as it did. -/
def fnExactIsPuzzleUptoRow : OpenClaim := { program := "ytlhiificglpgkaa", sum := "484be0102565445f27b18d4cf0788459249decc0b74263d8ffea786947cad9d3", func := "loop.example/g01259/laws.FnExactIsPuzzle", spec := "fnExactIsPuzzle", unfollowed := true, recurses := true, apart := false, narrowed := true }
def FnExactIsPuzzleUptoSaid : Prop := fnExactIsPuzzleUptoRow.holds Try.pinned (OpenSpec.upto fnExactIsPuzzleSpec)

/-- 'laws.FnExactDoesFit', WHERE WHAT IT READS IS OF BULK AT MOST 1048576: true; the input reads as it did. -/
def fnExactDoesFitUptoRow : OpenClaim := { program := "ytlhiificglpgkaa", sum := "484be0102565445f27b18d4cf0788459249decc0b74263d8ffea786947cad9d3", func := "loop.example/g01259/laws.FnExactDoesFit", spec := "fnExactDoesFit", apart := false, narrowed := true }
def FnExactDoesFitUptoSaid : Prop := fnExactDoesFitUptoRow.holds Try.pinned (OpenSpec.upto fnExactDoesFitSpec)

/-- 'laws.FnExactAddClue', WHERE WHAT IT READS IS OF BULK AT MOST 1048576: true; the input reads as it did. -/
def fnExactAddClueUptoRow : OpenClaim := { program := "ytlhiificglpgkaa", sum := "484be0102565445f27b18d4cf0788459249decc0b74263d8ffea786947cad9d3", func := "loop.example/g01259/laws.FnExactAddClue", spec := "fnExactAddClue", unfollowed := true, recurses := true, apart := false, narrowed := true }
def FnExactAddClueUptoSaid : Prop := fnExactAddClueUptoRow.holds Try.pinned (OpenSpec.upto fnExactAddClueSpec)

/-- 'laws.FnExactMakePuzzle', WHERE WHAT IT READS IS OF BULK AT MOST 1048576: true; the input reads as it did. -/
def fnExactMakePuzzleUptoRow : OpenClaim := { program := "ytlhiificglpgkaa", sum := "484be0102565445f27b18d4cf0788459249decc0b74263d8ffea786947cad9d3", func := "loop.example/g01259/laws.FnExactMakePuzzle", spec := "fnExactMakePuzzle", unfollowed := true, recurses := true, apart := false, narrowed := true }
def FnExactMakePuzzleUptoSaid : Prop := fnExactMakePuzzleUptoRow.holds Try.pinned (OpenSpec.upto fnExactMakePuzzleSpec)

/-- 'laws.FnExactDropClue', WHERE WHAT IT READS IS OF BULK AT MOST 1048576: true; the input reads as it did. -/
def fnExactDropClueUptoRow : OpenClaim := { program := "ytlhiificglpgkaa", sum := "484be0102565445f27b18d4cf0788459249decc0b74263d8ffea786947cad9d3", func := "loop.example/g01259/laws.FnExactDropClue", spec := "fnExactDropClue", unfollowed := true, recurses := true, apart := false, narrowed := true }
def FnExactDropClueUptoSaid : Prop := fnExactDropClueUptoRow.holds Try.pinned (OpenSpec.upto fnExactDropClueSpec)

/-- 'laws.FnExactCountSolutions', WHERE WHAT IT READS IS OF BULK AT MOST 1048576: true; the input reads as it did. -/
def fnExactCountSolutionsUptoRow : OpenClaim := { program := "ytlhiificglpgkaa", sum := "484be0102565445f27b18d4cf0788459249decc0b74263d8ffea786947cad9d3", func := "loop.example/g01259/laws.FnExactCountSolutions", spec := "fnExactCountSolutions", unfollowed := true, recurses := true, apart := false, narrowed := true }
def FnExactCountSolutionsUptoSaid : Prop := fnExactCountSolutionsUptoRow.holds Try.pinned (OpenSpec.upto fnExactCountSolutionsSpec)

/-- 'laws.FnExactIsSolved', WHERE WHAT IT READS IS OF BULK AT MOST 1048576: true; the input reads as it did. -/
def fnExactIsSolvedUptoRow : OpenClaim := { program := "ytlhiificglpgkaa", sum := "484be0102565445f27b18d4cf0788459249decc0b74263d8ffea786947cad9d3", func := "loop.example/g01259/laws.FnExactIsSolved", spec := "fnExactIsSolved", unfollowed := true, recurses := true, apart := false, narrowed := true }
def FnExactIsSolvedUptoSaid : Prop := fnExactIsSolvedUptoRow.holds Try.pinned (OpenSpec.upto fnExactIsSolvedSpec)

/-- 'laws.FnExactBestClue', WHERE WHAT IT READS IS OF BULK AT MOST 1048576: true; the input reads as it did. -/
def fnExactBestClueUptoRow : OpenClaim := { program := "ytlhiificglpgkaa", sum := "484be0102565445f27b18d4cf0788459249decc0b74263d8ffea786947cad9d3", func := "loop.example/g01259/laws.FnExactBestClue", spec := "fnExactBestClue", unfollowed := true, recurses := true, apart := false, narrowed := true }
def FnExactBestClueUptoSaid : Prop := fnExactBestClueUptoRow.holds Try.pinned (OpenSpec.upto fnExactBestClueSpec)

/-- 'laws.FnExactFirstSolution', WHERE WHAT IT READS IS OF BULK AT MOST 1048576: true; the input reads as it did. -/
def fnExactFirstSolutionUptoRow : OpenClaim := { program := "ytlhiificglpgkaa", sum := "484be0102565445f27b18d4cf0788459249decc0b74263d8ffea786947cad9d3", func := "loop.example/g01259/laws.FnExactFirstSolution", spec := "fnExactFirstSolution", unfollowed := true, recurses := true, apart := false, narrowed := true }
def FnExactFirstSolutionUptoSaid : Prop := fnExactFirstSolutionUptoRow.holds Try.pinned (OpenSpec.upto fnExactFirstSolutionSpec)

/-- 'laws.FnExactMovePeg', WHERE WHAT IT READS IS OF BULK AT MOST 1048576: true; the input reads as it did. -/
def fnExactMovePegUptoRow : OpenClaim := { program := "ytlhiificglpgkaa", sum := "484be0102565445f27b18d4cf0788459249decc0b74263d8ffea786947cad9d3", func := "loop.example/g01259/laws.FnExactMovePeg", spec := "fnExactMovePeg", apart := false, narrowed := true }
def FnExactMovePegUptoSaid : Prop := fnExactMovePegUptoRow.holds Try.pinned (OpenSpec.upto fnExactMovePegSpec)

/-- 'laws.FnExactJoinMoves', WHERE WHAT IT READS IS OF BULK AT MOST 1048576: true; the input reads as it did. -/
def fnExactJoinMovesUptoRow : OpenClaim := { program := "ytlhiificglpgkaa", sum := "484be0102565445f27b18d4cf0788459249decc0b74263d8ffea786947cad9d3", func := "loop.example/g01259/laws.FnExactJoinMoves", spec := "fnExactJoinMoves", apart := false, narrowed := true }
def FnExactJoinMovesUptoSaid : Prop := fnExactJoinMovesUptoRow.holds Try.pinned (OpenSpec.upto fnExactJoinMovesSpec)

/-- 'laws.FnExactBackMove', WHERE WHAT IT READS IS OF BULK AT MOST 1048576: true; the input reads as it did. -/
def fnExactBackMoveUptoRow : OpenClaim := { program := "ytlhiificglpgkaa", sum := "484be0102565445f27b18d4cf0788459249decc0b74263d8ffea786947cad9d3", func := "loop.example/g01259/laws.FnExactBackMove", spec := "fnExactBackMove", apart := false, narrowed := true }
def FnExactBackMoveUptoSaid : Prop := fnExactBackMoveUptoRow.holds Try.pinned (OpenSpec.upto fnExactBackMoveSpec)

end Rows
end Go.Proofs.Ytlhiificglpgkaa
