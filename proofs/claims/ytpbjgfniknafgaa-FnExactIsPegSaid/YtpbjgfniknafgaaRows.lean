/-
  No cell of these rows narrows 'for every input' (looked for: loops, veiled, ifaces, maps, wideKeys, modest, calm, conditions, laid).
  DERIVED. THE GIVEN ROWS OF THIS SEAT. 12 by the template 'for every input the law returns true; each argument reads behind the call as it read before'; 0 by the template 'total and deterministic' (their statements: YtpbjgfniknafgaaTotals.lean).
  GIVEN WITH THE SEED: the statements are not yours to turn. If you find one false, say at which input.
  Laid BY PROGRAM, IN A SANDBOX (cutbox-rows.mjs): the forced cells as the released guide's own fill.sh prints them over the translation 61016d913afc2cb0… (all of the seat's roots in one cut). By AI agents, Wed Nov 11 2026. No macro, syntax, notation, axiom, sorry.
-/
import Derived.Test.YtpbjgfniknafgaaChecked
import GoSem.Claim
import GoSem.ClaimJoined
import GoSem.ClaimMapViews
import Derived.JoinedTies
import Derived.KernelRfl
namespace Go.Proofs.Ytpbjgfniknafgaa
/- THE CELL 'sum', in the pinned program and in every row, IS THE sha256 OF THE DUMP (.gsa) THAT YtpbjgfniknafgaaProg.lean LOADS. Nothing in Lean hashes anything: it is a label: what it is worth is what the hold of that sum in a sandbox is worth. -/
noncomputable def Try.pinned : Pinned := { name := "ytpbjgfniknafgaa", sum := "61016d913afc2cb03e014b8956b96e63d504bfd2440e7398a97242b1bcc19db6", checked := Try.checked }
namespace Rows
def none {H : Type} : Left H := { results := [], args := [] }

/-- 'laws.FnExactConstants': WHATEVER THE INPUT: true; the input reads as it did. -/
def fnExactConstantsSpec : ChangeSpec := { name := "fnExactConstants", fn := fun _ => fun
  | [] => { results := [.lit (.bool true)], args := [] }
  | _ => none }
def fnExactConstantsRow : OpenClaim := { program := "ytpbjgfniknafgaa", sum := "61016d913afc2cb03e014b8956b96e63d504bfd2440e7398a97242b1bcc19db6", func := "loop.example/g01259/laws.FnExactConstants", spec := "fnExactConstants", apart := false }
def FnExactConstantsSaid : Prop := fnExactConstantsRow.holds Try.pinned (OpenSpec.ofChange fnExactConstantsSpec)

/-- ITS FALSE NEIGHBOUR: 'it returns false'. Refute it at one input. -/
def fnExactConstantsWrong : ChangeSpec := { name := "fnExactConstants", fn := fun _ => fun
  | [] => { results := [.lit (.bool false)], args := [] }
  | _ => none }
def FnExactConstantsWrongFalsely : Prop := fnExactConstantsRow.holds Try.pinned (OpenSpec.ofChange fnExactConstantsWrong)

/-- 'laws.FnExactIsPeg': WHATEVER THE INPUT: true; the input reads as it did. -/
def fnExactIsPegSpec : ChangeSpec := { name := "fnExactIsPeg", fn := fun _ => fun
  | [d] => { results := [.lit (.bool true)], args := [d] }
  | _ => none }
def fnExactIsPegRow : OpenClaim := { program := "ytpbjgfniknafgaa", sum := "61016d913afc2cb03e014b8956b96e63d504bfd2440e7398a97242b1bcc19db6", func := "loop.example/g01259/laws.FnExactIsPeg", spec := "fnExactIsPeg", apart := false }
def FnExactIsPegSaid : Prop := fnExactIsPegRow.holds Try.pinned (OpenSpec.ofChange fnExactIsPegSpec)

/-- ITS FALSE NEIGHBOUR: 'it returns false'. Refute it at one input. -/
def fnExactIsPegWrong : ChangeSpec := { name := "fnExactIsPeg", fn := fun _ => fun
  | [d] => { results := [.lit (.bool false)], args := [d] }
  | _ => none }
def FnExactIsPegWrongFalsely : Prop := fnExactIsPegRow.holds Try.pinned (OpenSpec.ofChange fnExactIsPegWrong)

/-- 'laws.FnExactGreatestTriangle': WHATEVER THE INPUT: true; the input reads as it did. -/
def fnExactGreatestTriangleSpec : ChangeSpec := { name := "fnExactGreatestTriangle", fn := fun _ => fun
  | [d1, d2] => { results := [.lit (.bool true)], args := [d1, d2] }
  | _ => none }
def fnExactGreatestTriangleRow : OpenClaim := { program := "ytpbjgfniknafgaa", sum := "61016d913afc2cb03e014b8956b96e63d504bfd2440e7398a97242b1bcc19db6", func := "loop.example/g01259/laws.FnExactGreatestTriangle", spec := "fnExactGreatestTriangle", apart := false }
def FnExactGreatestTriangleSaid : Prop := fnExactGreatestTriangleRow.holds Try.pinned (OpenSpec.ofChange fnExactGreatestTriangleSpec)

/-- ITS FALSE NEIGHBOUR: 'it returns false'. Refute it at one input. -/
def fnExactGreatestTriangleWrong : ChangeSpec := { name := "fnExactGreatestTriangle", fn := fun _ => fun
  | [d1, d2] => { results := [.lit (.bool false)], args := [d1, d2] }
  | _ => none }
def FnExactGreatestTriangleWrongFalsely : Prop := fnExactGreatestTriangleRow.holds Try.pinned (OpenSpec.ofChange fnExactGreatestTriangleWrong)

/-- 'laws.FnExactCountUpright': WHATEVER THE INPUT: true; the input reads as it did. -/
def fnExactCountUprightSpec : ChangeSpec := { name := "fnExactCountUpright", fn := fun _ => fun
  | [d1, d2] => { results := [.lit (.bool true)], args := [d1, d2] }
  | _ => none }
def fnExactCountUprightRow : OpenClaim := { program := "ytpbjgfniknafgaa", sum := "61016d913afc2cb03e014b8956b96e63d504bfd2440e7398a97242b1bcc19db6", func := "loop.example/g01259/laws.FnExactCountUpright", spec := "fnExactCountUpright", apart := false }
def FnExactCountUprightSaid : Prop := fnExactCountUprightRow.holds Try.pinned (OpenSpec.ofChange fnExactCountUprightSpec)

/-- ITS FALSE NEIGHBOUR: 'it returns false'. Refute it at one input. -/
def fnExactCountUprightWrong : ChangeSpec := { name := "fnExactCountUpright", fn := fun _ => fun
  | [d1, d2] => { results := [.lit (.bool false)], args := [d1, d2] }
  | _ => none }
def FnExactCountUprightWrongFalsely : Prop := fnExactCountUprightRow.holds Try.pinned (OpenSpec.ofChange fnExactCountUprightWrong)

/-- 'laws.FnExactCountStripCuts': WHATEVER THE INPUT: true; the input reads as it did. -/
def fnExactCountStripCutsSpec : ChangeSpec := { name := "fnExactCountStripCuts", fn := fun _ => fun
  | [d] => { results := [.lit (.bool true)], args := [d] }
  | _ => none }
def fnExactCountStripCutsRow : OpenClaim := { program := "ytpbjgfniknafgaa", sum := "61016d913afc2cb03e014b8956b96e63d504bfd2440e7398a97242b1bcc19db6", func := "loop.example/g01259/laws.FnExactCountStripCuts", spec := "fnExactCountStripCuts", apart := false }
def FnExactCountStripCutsSaid : Prop := fnExactCountStripCutsRow.holds Try.pinned (OpenSpec.ofChange fnExactCountStripCutsSpec)

/-- ITS FALSE NEIGHBOUR: 'it returns false'. Refute it at one input. -/
def fnExactCountStripCutsWrong : ChangeSpec := { name := "fnExactCountStripCuts", fn := fun _ => fun
  | [d] => { results := [.lit (.bool false)], args := [d] }
  | _ => none }
def FnExactCountStripCutsWrongFalsely : Prop := fnExactCountStripCutsRow.holds Try.pinned (OpenSpec.ofChange fnExactCountStripCutsWrong)

/-- 'laws.FnExactCountSquares': WHATEVER THE INPUT: true; the input reads as it did. -/
def fnExactCountSquaresSpec : ChangeSpec := { name := "fnExactCountSquares", fn := fun _ => fun
  | [d1, d2] => { results := [.lit (.bool true)], args := [d1, d2] }
  | _ => none }
def fnExactCountSquaresRow : OpenClaim := { program := "ytpbjgfniknafgaa", sum := "61016d913afc2cb03e014b8956b96e63d504bfd2440e7398a97242b1bcc19db6", func := "loop.example/g01259/laws.FnExactCountSquares", spec := "fnExactCountSquares", apart := false }
def FnExactCountSquaresSaid : Prop := fnExactCountSquaresRow.holds Try.pinned (OpenSpec.ofChange fnExactCountSquaresSpec)

/-- ITS FALSE NEIGHBOUR: 'it returns false'. Refute it at one input. -/
def fnExactCountSquaresWrong : ChangeSpec := { name := "fnExactCountSquares", fn := fun _ => fun
  | [d1, d2] => { results := [.lit (.bool false)], args := [d1, d2] }
  | _ => none }
def FnExactCountSquaresWrongFalsely : Prop := fnExactCountSquaresRow.holds Try.pinned (OpenSpec.ofChange fnExactCountSquaresWrong)

/-- 'laws.FnExactAllAround': WHATEVER THE INPUT: true; the input reads as it did. -/
def fnExactAllAroundSpec : ChangeSpec := { name := "fnExactAllAround", fn := fun _ => fun
  | [d] => { results := [.lit (.bool true)], args := [d] }
  | _ => none }
def fnExactAllAroundRow : OpenClaim := { program := "ytpbjgfniknafgaa", sum := "61016d913afc2cb03e014b8956b96e63d504bfd2440e7398a97242b1bcc19db6", func := "loop.example/g01259/laws.FnExactAllAround", spec := "fnExactAllAround", inPlace := ["slices.overlaps[int]"], unfollowed := true, recurses := true, apart := false }
def FnExactAllAroundSaid : Prop := fnExactAllAroundRow.holds Try.pinned (OpenSpec.ofChange fnExactAllAroundSpec)

/-- ITS FALSE NEIGHBOUR: 'it returns false'. Refute it at one input. -/
def fnExactAllAroundWrong : ChangeSpec := { name := "fnExactAllAround", fn := fun _ => fun
  | [d] => { results := [.lit (.bool false)], args := [d] }
  | _ => none }
def FnExactAllAroundWrongFalsely : Prop := fnExactAllAroundRow.holds Try.pinned (OpenSpec.ofChange fnExactAllAroundWrong)

/-- 'laws.FnExactIsClue': WHATEVER THE INPUT: true; the input reads as it did. -/
def fnExactIsClueSpec : ChangeSpec := { name := "fnExactIsClue", fn := fun _ => fun
  | [d1, d2] => { results := [.lit (.bool true)], args := [d1, d2] }
  | _ => none }
def fnExactIsClueRow : OpenClaim := { program := "ytpbjgfniknafgaa", sum := "61016d913afc2cb03e014b8956b96e63d504bfd2440e7398a97242b1bcc19db6", func := "loop.example/g01259/laws.FnExactIsClue", spec := "fnExactIsClue", apart := false }
def FnExactIsClueSaid : Prop := fnExactIsClueRow.holds Try.pinned (OpenSpec.ofChange fnExactIsClueSpec)

/-- ITS FALSE NEIGHBOUR: 'it returns false'. Refute it at one input. -/
def fnExactIsClueWrong : ChangeSpec := { name := "fnExactIsClue", fn := fun _ => fun
  | [d1, d2] => { results := [.lit (.bool false)], args := [d1, d2] }
  | _ => none }
def FnExactIsClueWrongFalsely : Prop := fnExactIsClueRow.holds Try.pinned (OpenSpec.ofChange fnExactIsClueWrong)

/-- 'laws.FnExactIsMove': WHATEVER THE INPUT: true; the input reads as it did. -/
def fnExactIsMoveSpec : ChangeSpec := { name := "fnExactIsMove", fn := fun _ => fun
  | [d] => { results := [.lit (.bool true)], args := [d] }
  | _ => none }
def fnExactIsMoveRow : OpenClaim := { program := "ytpbjgfniknafgaa", sum := "61016d913afc2cb03e014b8956b96e63d504bfd2440e7398a97242b1bcc19db6", func := "loop.example/g01259/laws.FnExactIsMove", spec := "fnExactIsMove", apart := false }
def FnExactIsMoveSaid : Prop := fnExactIsMoveRow.holds Try.pinned (OpenSpec.ofChange fnExactIsMoveSpec)

/-- ITS FALSE NEIGHBOUR: 'it returns false'. Refute it at one input. -/
def fnExactIsMoveWrong : ChangeSpec := { name := "fnExactIsMove", fn := fun _ => fun
  | [d] => { results := [.lit (.bool false)], args := [d] }
  | _ => none }
def FnExactIsMoveWrongFalsely : Prop := fnExactIsMoveRow.holds Try.pinned (OpenSpec.ofChange fnExactIsMoveWrong)

/-- 'laws.FnExactShearMove': WHATEVER THE INPUT: true; the input reads as it did. -/
def fnExactShearMoveSpec : ChangeSpec := { name := "fnExactShearMove", fn := fun _ => fun
  | [d] => { results := [.lit (.bool true)], args := [d] }
  | _ => none }
def fnExactShearMoveRow : OpenClaim := { program := "ytpbjgfniknafgaa", sum := "61016d913afc2cb03e014b8956b96e63d504bfd2440e7398a97242b1bcc19db6", func := "loop.example/g01259/laws.FnExactShearMove", spec := "fnExactShearMove", apart := false }
def FnExactShearMoveSaid : Prop := fnExactShearMoveRow.holds Try.pinned (OpenSpec.ofChange fnExactShearMoveSpec)

/-- ITS FALSE NEIGHBOUR: 'it returns false'. Refute it at one input. -/
def fnExactShearMoveWrong : ChangeSpec := { name := "fnExactShearMove", fn := fun _ => fun
  | [d] => { results := [.lit (.bool false)], args := [d] }
  | _ => none }
def FnExactShearMoveWrongFalsely : Prop := fnExactShearMoveRow.holds Try.pinned (OpenSpec.ofChange fnExactShearMoveWrong)

/-- 'laws.FnExactIsOnLine': WHATEVER THE INPUT: true; the input reads as it did. -/
def fnExactIsOnLineSpec : ChangeSpec := { name := "fnExactIsOnLine", fn := fun _ => fun
  | [d1, d2, d3] => { results := [.lit (.bool true)], args := [d1, d2, d3] }
  | _ => none }
def fnExactIsOnLineRow : OpenClaim := { program := "ytpbjgfniknafgaa", sum := "61016d913afc2cb03e014b8956b96e63d504bfd2440e7398a97242b1bcc19db6", func := "loop.example/g01259/laws.FnExactIsOnLine", spec := "fnExactIsOnLine", unfollowed := true, recurses := true, apart := false }
def FnExactIsOnLineSaid : Prop := fnExactIsOnLineRow.holds Try.pinned (OpenSpec.ofChange fnExactIsOnLineSpec)

/-- ITS FALSE NEIGHBOUR: 'it returns false'. Refute it at one input. -/
def fnExactIsOnLineWrong : ChangeSpec := { name := "fnExactIsOnLine", fn := fun _ => fun
  | [d1, d2, d3] => { results := [.lit (.bool false)], args := [d1, d2, d3] }
  | _ => none }
def FnExactIsOnLineWrongFalsely : Prop := fnExactIsOnLineRow.holds Try.pinned (OpenSpec.ofChange fnExactIsOnLineWrong)

/-- 'laws.FnExactSideOfMove': WHATEVER THE INPUT: true; the input reads as it did. -/
def fnExactSideOfMoveSpec : ChangeSpec := { name := "fnExactSideOfMove", fn := fun _ => fun
  | [d] => { results := [.lit (.bool true)], args := [d] }
  | _ => none }
def fnExactSideOfMoveRow : OpenClaim := { program := "ytpbjgfniknafgaa", sum := "61016d913afc2cb03e014b8956b96e63d504bfd2440e7398a97242b1bcc19db6", func := "loop.example/g01259/laws.FnExactSideOfMove", spec := "fnExactSideOfMove", apart := false }
def FnExactSideOfMoveSaid : Prop := fnExactSideOfMoveRow.holds Try.pinned (OpenSpec.ofChange fnExactSideOfMoveSpec)

/-- ITS FALSE NEIGHBOUR: 'it returns false'. Refute it at one input. -/
def fnExactSideOfMoveWrong : ChangeSpec := { name := "fnExactSideOfMove", fn := fun _ => fun
  | [d] => { results := [.lit (.bool false)], args := [d] }
  | _ => none }
def FnExactSideOfMoveWrongFalsely : Prop := fnExactSideOfMoveRow.holds Try.pinned (OpenSpec.ofChange fnExactSideOfMoveWrong)

/- THE SECOND FORM. 'bulk': how many values and letters a reading holds, each counted each time it is reached (what is shared counts as often as it is met; a slice's spare places count too). A statement '..UptoSaid' is the law's where the arguments, and the package variables that the reading takes, are together of bulk at most 1048576: NARROWER than '..Said'. Prove '..Said' where nothing that the law and all that it calls make is longer than what came in: it says more and counts as full. Else prove '..UptoSaid'. A law counts once. -/
mutual
def uptoBulk {H : Type} : DataW H → Nat
  | .lit (.string bytes) => bytes.length + 1
  | .lit _ => 1
  | .nil => 1
  | .ptr d => uptoBulk d + 1
  | .slice elems spare => uptoBulkAll elems + uptoBulkAll spare + 1
  | .agg parts => uptoBulkAll parts + 1
  | .iface _ d => uptoBulk d + 1
  | .map entries => uptoBulkEntries entries + 1
  | .held _ => 1
def uptoBulkAll {H : Type} : List (DataW H) → Nat
  | [] => 0
  | d :: r => uptoBulk d + uptoBulkAll r
def uptoBulkEntries {H : Type} : List (Lit × DataW H) → Nat
  | [] => 0
  | x :: r => uptoBulkEntry x + uptoBulkEntries r
def uptoBulkEntry {H : Type} : Lit × DataW H → Nat
  | (.string bytes, d) => bytes.length + uptoBulk d + 1
  | (_, d) => uptoBulk d + 1
 end
def uptoSmall : (H : Type) → List (DataW H) → Bool := fun _ ds => decide (uptoBulkAll ds ≤ 1048576)
def OpenSpec.upto (s : _root_.Go.ChangeSpec) : _root_.Go.OpenSpec := { _root_.Go.OpenSpec.ofChange s with cond := some uptoSmall }

/-- 'laws.FnExactConstants', WHERE WHAT IT READS IS OF BULK AT MOST 1048576: true; the input reads as it did. -/
def fnExactConstantsUptoRow : OpenClaim := { program := "ytpbjgfniknafgaa", sum := "61016d913afc2cb03e014b8956b96e63d504bfd2440e7398a97242b1bcc19db6", func := "loop.example/g01259/laws.FnExactConstants", spec := "fnExactConstants", apart := false, narrowed := true }
def FnExactConstantsUptoSaid : Prop := fnExactConstantsUptoRow.holds Try.pinned (OpenSpec.upto fnExactConstantsSpec)

/-- 'laws.FnExactIsPeg', WHERE WHAT IT READS IS OF BULK AT MOST 1048576: true; the input reads as it did. -/
def fnExactIsPegUptoRow : OpenClaim := { program := "ytpbjgfniknafgaa", sum := "61016d913afc2cb03e014b8956b96e63d504bfd2440e7398a97242b1bcc19db6", func := "loop.example/g01259/laws.FnExactIsPeg", spec := "fnExactIsPeg", apart := false, narrowed := true }
def FnExactIsPegUptoSaid : Prop := fnExactIsPegUptoRow.holds Try.pinned (OpenSpec.upto fnExactIsPegSpec)

/-- 'laws.FnExactGreatestTriangle', WHERE WHAT IT READS IS OF BULK AT MOST 1048576: true; the input reads as it did. -/
def fnExactGreatestTriangleUptoRow : OpenClaim := { program := "ytpbjgfniknafgaa", sum := "61016d913afc2cb03e014b8956b96e63d504bfd2440e7398a97242b1bcc19db6", func := "loop.example/g01259/laws.FnExactGreatestTriangle", spec := "fnExactGreatestTriangle", apart := false, narrowed := true }
def FnExactGreatestTriangleUptoSaid : Prop := fnExactGreatestTriangleUptoRow.holds Try.pinned (OpenSpec.upto fnExactGreatestTriangleSpec)

/-- 'laws.FnExactCountUpright', WHERE WHAT IT READS IS OF BULK AT MOST 1048576: true; the input reads as it did. -/
def fnExactCountUprightUptoRow : OpenClaim := { program := "ytpbjgfniknafgaa", sum := "61016d913afc2cb03e014b8956b96e63d504bfd2440e7398a97242b1bcc19db6", func := "loop.example/g01259/laws.FnExactCountUpright", spec := "fnExactCountUpright", apart := false, narrowed := true }
def FnExactCountUprightUptoSaid : Prop := fnExactCountUprightUptoRow.holds Try.pinned (OpenSpec.upto fnExactCountUprightSpec)

/-- 'laws.FnExactCountStripCuts', WHERE WHAT IT READS IS OF BULK AT MOST 1048576: true; the input reads as it did. -/
def fnExactCountStripCutsUptoRow : OpenClaim := { program := "ytpbjgfniknafgaa", sum := "61016d913afc2cb03e014b8956b96e63d504bfd2440e7398a97242b1bcc19db6", func := "loop.example/g01259/laws.FnExactCountStripCuts", spec := "fnExactCountStripCuts", apart := false, narrowed := true }
def FnExactCountStripCutsUptoSaid : Prop := fnExactCountStripCutsUptoRow.holds Try.pinned (OpenSpec.upto fnExactCountStripCutsSpec)

/-- 'laws.FnExactCountSquares', WHERE WHAT IT READS IS OF BULK AT MOST 1048576: true; the input reads as it did. -/
def fnExactCountSquaresUptoRow : OpenClaim := { program := "ytpbjgfniknafgaa", sum := "61016d913afc2cb03e014b8956b96e63d504bfd2440e7398a97242b1bcc19db6", func := "loop.example/g01259/laws.FnExactCountSquares", spec := "fnExactCountSquares", apart := false, narrowed := true }
def FnExactCountSquaresUptoSaid : Prop := fnExactCountSquaresUptoRow.holds Try.pinned (OpenSpec.upto fnExactCountSquaresSpec)

/-- 'laws.FnExactAllAround', WHERE WHAT IT READS IS OF BULK AT MOST 1048576: true; the input reads as it did. -/
def fnExactAllAroundUptoRow : OpenClaim := { program := "ytpbjgfniknafgaa", sum := "61016d913afc2cb03e014b8956b96e63d504bfd2440e7398a97242b1bcc19db6", func := "loop.example/g01259/laws.FnExactAllAround", spec := "fnExactAllAround", inPlace := ["slices.overlaps[int]"], unfollowed := true, recurses := true, apart := false, narrowed := true }
def FnExactAllAroundUptoSaid : Prop := fnExactAllAroundUptoRow.holds Try.pinned (OpenSpec.upto fnExactAllAroundSpec)

/-- 'laws.FnExactIsClue', WHERE WHAT IT READS IS OF BULK AT MOST 1048576: true; the input reads as it did. -/
def fnExactIsClueUptoRow : OpenClaim := { program := "ytpbjgfniknafgaa", sum := "61016d913afc2cb03e014b8956b96e63d504bfd2440e7398a97242b1bcc19db6", func := "loop.example/g01259/laws.FnExactIsClue", spec := "fnExactIsClue", apart := false, narrowed := true }
def FnExactIsClueUptoSaid : Prop := fnExactIsClueUptoRow.holds Try.pinned (OpenSpec.upto fnExactIsClueSpec)

/-- 'laws.FnExactIsMove', WHERE WHAT IT READS IS OF BULK AT MOST 1048576: true; the input reads as it did. -/
def fnExactIsMoveUptoRow : OpenClaim := { program := "ytpbjgfniknafgaa", sum := "61016d913afc2cb03e014b8956b96e63d504bfd2440e7398a97242b1bcc19db6", func := "loop.example/g01259/laws.FnExactIsMove", spec := "fnExactIsMove", apart := false, narrowed := true }
def FnExactIsMoveUptoSaid : Prop := fnExactIsMoveUptoRow.holds Try.pinned (OpenSpec.upto fnExactIsMoveSpec)

/-- 'laws.FnExactShearMove', WHERE WHAT IT READS IS OF BULK AT MOST 1048576: true; the input reads as it did. -/
def fnExactShearMoveUptoRow : OpenClaim := { program := "ytpbjgfniknafgaa", sum := "61016d913afc2cb03e014b8956b96e63d504bfd2440e7398a97242b1bcc19db6", func := "loop.example/g01259/laws.FnExactShearMove", spec := "fnExactShearMove", apart := false, narrowed := true }
def FnExactShearMoveUptoSaid : Prop := fnExactShearMoveUptoRow.holds Try.pinned (OpenSpec.upto fnExactShearMoveSpec)

/-- 'laws.FnExactIsOnLine', WHERE WHAT IT READS IS OF BULK AT MOST 1048576: true; the input reads as it did. -/
def fnExactIsOnLineUptoRow : OpenClaim := { program := "ytpbjgfniknafgaa", sum := "61016d913afc2cb03e014b8956b96e63d504bfd2440e7398a97242b1bcc19db6", func := "loop.example/g01259/laws.FnExactIsOnLine", spec := "fnExactIsOnLine", unfollowed := true, recurses := true, apart := false, narrowed := true }
def FnExactIsOnLineUptoSaid : Prop := fnExactIsOnLineUptoRow.holds Try.pinned (OpenSpec.upto fnExactIsOnLineSpec)

/-- 'laws.FnExactSideOfMove', WHERE WHAT IT READS IS OF BULK AT MOST 1048576: true; the input reads as it did. -/
def fnExactSideOfMoveUptoRow : OpenClaim := { program := "ytpbjgfniknafgaa", sum := "61016d913afc2cb03e014b8956b96e63d504bfd2440e7398a97242b1bcc19db6", func := "loop.example/g01259/laws.FnExactSideOfMove", spec := "fnExactSideOfMove", apart := false, narrowed := true }
def FnExactSideOfMoveUptoSaid : Prop := fnExactSideOfMoveUptoRow.holds Try.pinned (OpenSpec.upto fnExactSideOfMoveSpec)

end Rows
end Go.Proofs.Ytpbjgfniknafgaa
