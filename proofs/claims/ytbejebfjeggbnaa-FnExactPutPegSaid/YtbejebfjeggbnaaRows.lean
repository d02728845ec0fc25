/-
  No cell of these rows narrows 'for every input' (looked for: loops, veiled, ifaces, maps, wideKeys, modest, calm, conditions, laid).
  DERIVED. THE GIVEN ROWS OF THIS SEAT. 7 by the template 'for every input the law returns true; each argument reads behind the call as it read before'; 0 by the template 'total and deterministic' (their statements: YtbejebfjeggbnaaTotals.lean).
  GIVEN WITH THE SEED: the statements are not yours to turn. If you find one false, say at which input.
  Laid BY PROGRAM, IN A SANDBOX (cutbox-rows.mjs): the forced cells as the released guide's own fill.sh prints them over the translation fac05743c96aa972… (all of the seat's roots in one cut). By AI agents, Wed Nov 11 2026. No macro, syntax, notation, axiom, sorry.
-/
import Derived.Test.YtbejebfjeggbnaaChecked
import GoSem.Claim
import GoSem.ClaimJoined
import GoSem.ClaimMapViews
import Derived.JoinedTies
import Derived.KernelRfl
namespace Go.Proofs.Ytbejebfjeggbnaa
/- THE CELL 'sum', in the pinned program and in every row, IS THE sha256 OF THE DUMP (.gsa) THAT YtbejebfjeggbnaaProg.lean LOADS. Nothing in Lean hashes anything: it is a label: what it is worth is what the hold of that sum in a sandbox is worth. -/
noncomputable def Try.pinned : Pinned := { name := "ytbejebfjeggbnaa", sum := "fac05743c96aa9723916eadd62b94f99eb499fb232034cff54a070a2e49ff894", checked := Try.checked }
namespace Rows
def none {H : Type} : Left H := { results := [], args := [] }

/-- 'laws.FnExactAreAround': WHATEVER THE INPUT: true; the input reads as it did. -/
def fnExactAreAroundSpec : ChangeSpec := { name := "fnExactAreAround", fn := fun _ => fun
  | [d] => { results := [.lit (.bool true)], args := [d] }
  | _ => none }
def fnExactAreAroundRow : OpenClaim := { program := "ytbejebfjeggbnaa", sum := "fac05743c96aa9723916eadd62b94f99eb499fb232034cff54a070a2e49ff894", func := "loop.example/g01259/laws.FnExactAreAround", spec := "fnExactAreAround", unfollowed := true, recurses := true, apart := false }
def FnExactAreAroundSaid : Prop := fnExactAreAroundRow.holds Try.pinned (OpenSpec.ofChange fnExactAreAroundSpec)

/-- ITS FALSE NEIGHBOUR: 'it returns false'. Refute it at one input. -/
def fnExactAreAroundWrong : ChangeSpec := { name := "fnExactAreAround", fn := fun _ => fun
  | [d] => { results := [.lit (.bool false)], args := [d] }
  | _ => none }
def FnExactAreAroundWrongFalsely : Prop := fnExactAreAroundRow.holds Try.pinned (OpenSpec.ofChange fnExactAreAroundWrong)

/-- 'laws.FnExactTakePeg': WHATEVER THE INPUT: true; the input reads as it did. -/
def fnExactTakePegSpec : ChangeSpec := { name := "fnExactTakePeg", fn := fun _ => fun
  | [d1, d2] => { results := [.lit (.bool true)], args := [d1, d2] }
  | _ => none }
def fnExactTakePegRow : OpenClaim := { program := "ytbejebfjeggbnaa", sum := "fac05743c96aa9723916eadd62b94f99eb499fb232034cff54a070a2e49ff894", func := "loop.example/g01259/laws.FnExactTakePeg", spec := "fnExactTakePeg", unfollowed := true, recurses := true, apart := false }
def FnExactTakePegSaid : Prop := fnExactTakePegRow.holds Try.pinned (OpenSpec.ofChange fnExactTakePegSpec)

/-- ITS FALSE NEIGHBOUR: 'it returns false'. Refute it at one input. -/
def fnExactTakePegWrong : ChangeSpec := { name := "fnExactTakePeg", fn := fun _ => fun
  | [d1, d2] => { results := [.lit (.bool false)], args := [d1, d2] }
  | _ => none }
def FnExactTakePegWrongFalsely : Prop := fnExactTakePegRow.holds Try.pinned (OpenSpec.ofChange fnExactTakePegWrong)

/-- 'laws.FnExactLeastNumbers': WHATEVER THE INPUT: true; the input reads as it did. -/
def fnExactLeastNumbersSpec : ChangeSpec := { name := "fnExactLeastNumbers", fn := fun _ => fun
  | [d] => { results := [.lit (.bool true)], args := [d] }
  | _ => none }
def fnExactLeastNumbersRow : OpenClaim := { program := "ytbejebfjeggbnaa", sum := "fac05743c96aa9723916eadd62b94f99eb499fb232034cff54a070a2e49ff894", func := "loop.example/g01259/laws.FnExactLeastNumbers", spec := "fnExactLeastNumbers", unfollowed := true, recurses := true, apart := false }
def FnExactLeastNumbersSaid : Prop := fnExactLeastNumbersRow.holds Try.pinned (OpenSpec.ofChange fnExactLeastNumbersSpec)

/-- ITS FALSE NEIGHBOUR: 'it returns false'. Refute it at one input. -/
def fnExactLeastNumbersWrong : ChangeSpec := { name := "fnExactLeastNumbers", fn := fun _ => fun
  | [d] => { results := [.lit (.bool false)], args := [d] }
  | _ => none }
def FnExactLeastNumbersWrongFalsely : Prop := fnExactLeastNumbersRow.holds Try.pinned (OpenSpec.ofChange fnExactLeastNumbersWrong)

/-- 'laws.FnExactPutPeg': WHATEVER THE INPUT: true; the input reads as it did. -/
def fnExactPutPegSpec : ChangeSpec := { name := "fnExactPutPeg", fn := fun _ => fun
  | [d1, d2] => { results := [.lit (.bool true)], args := [d1, d2] }
  | _ => none }
def fnExactPutPegRow : OpenClaim := { program := "ytbejebfjeggbnaa", sum := "fac05743c96aa9723916eadd62b94f99eb499fb232034cff54a070a2e49ff894", func := "loop.example/g01259/laws.FnExactPutPeg", spec := "fnExactPutPeg", inPlace := ["slices.overlaps[int]"], unfollowed := true, recurses := true, apart := false }
def FnExactPutPegSaid : Prop := fnExactPutPegRow.holds Try.pinned (OpenSpec.ofChange fnExactPutPegSpec)

/-- ITS FALSE NEIGHBOUR: 'it returns false'. Refute it at one input. -/
def fnExactPutPegWrong : ChangeSpec := { name := "fnExactPutPeg", fn := fun _ => fun
  | [d1, d2] => { results := [.lit (.bool false)], args := [d1, d2] }
  | _ => none }
def FnExactPutPegWrongFalsely : Prop := fnExactPutPegRow.holds Try.pinned (OpenSpec.ofChange fnExactPutPegWrong)

/-- 'laws.FnExactCountAround': WHATEVER THE INPUT: true; the input reads as it did. -/
def fnExactCountAroundSpec : ChangeSpec := { name := "fnExactCountAround", fn := fun _ => fun
  | [d] => { results := [.lit (.bool true)], args := [d] }
  | _ => none }
def fnExactCountAroundRow : OpenClaim := { program := "ytbejebfjeggbnaa", sum := "fac05743c96aa9723916eadd62b94f99eb499fb232034cff54a070a2e49ff894", func := "loop.example/g01259/laws.FnExactCountAround", spec := "fnExactCountAround", inPlace := ["slices.overlaps[int]"], unfollowed := true, recurses := true, apart := false }
def FnExactCountAroundSaid : Prop := fnExactCountAroundRow.holds Try.pinned (OpenSpec.ofChange fnExactCountAroundSpec)

/-- ITS FALSE NEIGHBOUR: 'it returns false'. Refute it at one input. -/
def fnExactCountAroundWrong : ChangeSpec := { name := "fnExactCountAround", fn := fun _ => fun
  | [d] => { results := [.lit (.bool false)], args := [d] }
  | _ => none }
def FnExactCountAroundWrongFalsely : Prop := fnExactCountAroundRow.holds Try.pinned (OpenSpec.ofChange fnExactCountAroundWrong)

/-- 'laws.FnExactAllAround': WHATEVER THE INPUT: true; the input reads as it did. -/
def fnExactAllAroundSpec : ChangeSpec := { name := "fnExactAllAround", fn := fun _ => fun
  | [d] => { results := [.lit (.bool true)], args := [d] }
  | _ => none }
def fnExactAllAroundRow : OpenClaim := { program := "ytbejebfjeggbnaa", sum := "fac05743c96aa9723916eadd62b94f99eb499fb232034cff54a070a2e49ff894", func := "loop.example/g01259/laws.FnExactAllAround", spec := "fnExactAllAround", inPlace := ["slices.overlaps[int]"], unfollowed := true, recurses := true, apart := false }
def FnExactAllAroundSaid : Prop := fnExactAllAroundRow.holds Try.pinned (OpenSpec.ofChange fnExactAllAroundSpec)

/-- ITS FALSE NEIGHBOUR: 'it returns false'. Refute it at one input. -/
def fnExactAllAroundWrong : ChangeSpec := { name := "fnExactAllAround", fn := fun _ => fun
  | [d] => { results := [.lit (.bool false)], args := [d] }
  | _ => none }
def FnExactAllAroundWrongFalsely : Prop := fnExactAllAroundRow.holds Try.pinned (OpenSpec.ofChange fnExactAllAroundWrong)

/-- 'laws.FnSixteenAround': WHATEVER THE INPUT: true; the input reads as it did. -/
def fnSixteenAroundSpec : ChangeSpec := { name := "fnSixteenAround", fn := fun _ => fun
  | [d1, d2] => { results := [.lit (.bool true)], args := [d1, d2] }
  | _ => none }
def fnSixteenAroundRow : OpenClaim := { program := "ytbejebfjeggbnaa", sum := "fac05743c96aa9723916eadd62b94f99eb499fb232034cff54a070a2e49ff894", func := "loop.example/g01259/laws.FnSixteenAround", spec := "fnSixteenAround", inPlace := ["slices.overlaps[int]"], unfollowed := true, recurses := true, apart := false }
def FnSixteenAroundSaid : Prop := fnSixteenAroundRow.holds Try.pinned (OpenSpec.ofChange fnSixteenAroundSpec)

/-- ITS FALSE NEIGHBOUR: 'it returns false'. Refute it at one input. -/
def fnSixteenAroundWrong : ChangeSpec := { name := "fnSixteenAround", fn := fun _ => fun
  | [d1, d2] => { results := [.lit (.bool false)], args := [d1, d2] }
  | _ => none }
def FnSixteenAroundWrongFalsely : Prop := fnSixteenAroundRow.holds Try.pinned (OpenSpec.ofChange fnSixteenAroundWrong)

/- THE SECOND FORM. 'bulk': how many values and letters a reading holds, each counted each time it is reached (what is shared counts as often as it is met; a slice's spare places count too). A statement '..UptoSaid' is the law's where the arguments, and the package variables that the reading takes, are together of bulk at most 1048576: NARROWER than '..Said'. Prove '..Said' where nothing that the law and all that it calls make is longer than what came in: it says more and counts as full. Else prove '..UptoSaid'. A law counts once. -/
mutual
def uptoBulk {H : Type} : DataW H → Nat
  | .lit (.string bytes) => bytes.length + 1
  | .lit _ => 1
  | .nil => 1
  | .ptr d => uptoBulk d + 1
  | .slice elems spare => uptoBulkAll elems + uptoBulkAll spare + 1
  | .agg parts => uptoBulkAll parts + 1
  | .iface _ d => uptoBulk d + 1
  | .map entries => uptoBulkEntries entries + 1
  | .held _ => 1
def uptoBulkAll {H : Type} : List (DataW H) → Nat
  | [] => 0
  | d :: r => uptoBulk d + uptoBulkAll r
def uptoBulkEntries {H : Type} : List (Lit × DataW H) → Nat
  | [] => 0
  | x :: r => uptoBulkEntry x + uptoBulkEntries r
def uptoBulkEntry {H : Type} : Lit × DataW H → Nat
  | (.string bytes, d) => bytes.length + uptoBulk d + 1
  | (_, d) => uptoBulk d + 1
 end
def uptoSmall : (H : Type) → List (DataW H) → Bool := fun _ ds => decide (uptoBulkAll ds ≤ 1048576)
def OpenSpec.upto (s : _root_.Go.ChangeSpec) : _root_.Go.OpenSpec := { _root_.Go.OpenSpec.ofChange s with cond := some uptoSmall }

/-- 'laws.FnExactAreAround', WHERE WHAT IT READS IS OF BULK AT MOST 1048576: true; the input reads as it did. -/
def fnExactAreAroundUptoRow : OpenClaim := { program := "ytbejebfjeggbnaa", sum := "fac05743c96aa9723916eadd62b94f99eb499fb232034cff54a070a2e49ff894", func := "loop.example/g01259/laws.FnExactAreAround", spec := "fnExactAreAround", unfollowed := true, recurses := true, apart := false, narrowed := true }
def FnExactAreAroundUptoSaid : Prop := fnExactAreAroundUptoRow.holds Try.pinned (OpenSpec.upto fnExactAreAroundSpec)

/-- 'laws.FnExactTakePeg', WHERE WHAT IT READS IS OF BULK AT MOST 1048576: true; the input reads as it did. -/
def fnExactTakePegUptoRow : OpenClaim := { program := "ytbejebfjeggbnaa", sum := "fac05743c96aa9723916eadd62b94f99eb499fb232034cff54a070a2e49ff894", func := "loop.example/g01259/laws.FnExactTakePeg", spec := "fnExactTakePeg", unfollowed := true, recurses := true, apart := false, narrowed := true }
def FnExactTakePegUptoSaid : Prop := fnExactTakePegUptoRow.holds Try.pinned (OpenSpec.upto fnExactTakePegSpec)

/-- 'laws.FnExactLeastNumbers', WHERE WHAT IT READS IS OF BULK AT MOST 1048576: true; the input reads as it did. -/
def fnExactLeastNumbersUptoRow : OpenClaim := { program := "ytbejebfjeggbnaa", sum := "fac05743c96aa9723916eadd62b94f99eb499fb232034cff54a070a2e49ff894", func := "loop.example/g01259/laws.FnExactLeastNumbers", spec := "fnExactLeastNumbers", unfollowed := true, recurses := true, apart := false, narrowed := true }
def FnExactLeastNumbersUptoSaid : Prop := fnExactLeastNumbersUptoRow.holds Try.pinned (OpenSpec.upto fnExactLeastNumbersSpec)

/-- 'laws.FnExactPutPeg', WHERE WHAT IT READS IS OF BULK AT MOST 1048576: true; the input reads as it did. -/
def fnExactPutPegUptoRow : OpenClaim := { program := "ytbejebfjeggbnaa", sum := "fac05743c96aa9723916eadd62b94f99eb499fb232034cff54a070a2e49ff894", func := "loop.example/g01259/laws.FnExactPutPeg", spec := "fnExactPutPeg", inPlace := ["slices.overlaps[int]"], unfollowed := true, recurses := true, apart := false, narrowed := true }
def FnExactPutPegUptoSaid : Prop := fnExactPutPegUptoRow.holds Try.pinned (OpenSpec.upto fnExactPutPegSpec)

/-- 'laws.FnExactCountAround', WHERE WHAT IT READS IS OF BULK AT MOST 1048576: true; the input reads as it did. -/
def fnExactCountAroundUptoRow : OpenClaim := { program := "ytbejebfjeggbnaa", sum := "fac05743c96aa9723916eadd62b94f99eb499fb232034cff54a070a2e49ff894", func := "loop.example/g01259/laws.FnExactCountAround", spec := "fnExactCountAround", inPlace := ["slices.overlaps[int]"], unfollowed := true, recurses := true, apart := false, narrowed := true }
def FnExactCountAroundUptoSaid : Prop := fnExactCountAroundUptoRow.holds Try.pinned (OpenSpec.upto fnExactCountAroundSpec)

/-- 'laws.FnExactAllAround', WHERE WHAT IT READS IS OF BULK AT MOST 1048576: true; the input reads as it did. -/
def fnExactAllAroundUptoRow : OpenClaim := { program := "ytbejebfjeggbnaa", sum := "fac05743c96aa9723916eadd62b94f99eb499fb232034cff54a070a2e49ff894", func := "loop.example/g01259/laws.FnExactAllAround", spec := "fnExactAllAround", inPlace := ["slices.overlaps[int]"], unfollowed := true, recurses := true, apart := false, narrowed := true }
def FnExactAllAroundUptoSaid : Prop := fnExactAllAroundUptoRow.holds Try.pinned (OpenSpec.upto fnExactAllAroundSpec)

/-- 'laws.FnSixteenAround', WHERE WHAT IT READS IS OF BULK AT MOST 1048576: true; the input reads as it did. -/
def fnSixteenAroundUptoRow : OpenClaim := { program := "ytbejebfjeggbnaa", sum := "fac05743c96aa9723916eadd62b94f99eb499fb232034cff54a070a2e49ff894", func := "loop.example/g01259/laws.FnSixteenAround", spec := "fnSixteenAround", inPlace := ["slices.overlaps[int]"], unfollowed := true, recurses := true, apart := false, narrowed := true }
def FnSixteenAroundUptoSaid : Prop := fnSixteenAroundUptoRow.holds Try.pinned (OpenSpec.upto fnSixteenAroundSpec)

end Rows
end Go.Proofs.Ytbejebfjeggbnaa
