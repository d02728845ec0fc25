/-
  No cell of these rows narrows 'for every input' (looked for: loops, veiled, ifaces, maps, wideKeys, modest, calm, conditions, laid).
  DERIVED. THE GIVEN ROWS OF THIS SEAT. 12 by the template 'for every input the law returns true; each argument reads behind the call as it read before'; 0 by the template 'total and deterministic' (their statements: YtaclbccjcjdbpaaTotals.lean).
  GIVEN WITH THE SEED: the statements are not yours to turn. If you find one false, say at which input.
  Laid BY PROGRAM, IN A SANDBOX (cutbox-rows.mjs): the forced cells as the released guide's own fill.sh prints them over the translation f16fe9dc926da78c… (all of the seat's roots in one cut). By AI agents, Wed Nov 11 2026. No macro, syntax, notation, axiom, sorry.
-/
import Derived.Test.YtaclbccjcjdbpaaChecked
import GoSem.Claim
import GoSem.ClaimJoined
import GoSem.ClaimMapViews
import Derived.JoinedTies
import Derived.KernelRfl
namespace Go.Proofs.Ytaclbccjcjdbpaa
/- THE CELL 'sum', in the pinned program and in every row, IS THE sha256 OF THE DUMP (.gsa) THAT YtaclbccjcjdbpaaProg.lean LOADS. Nothing in Lean hashes anything: it is a label: what it is worth is what the hold of that sum in a sandbox is worth. -/
noncomputable def Try.pinned : Pinned := { name := "ytaclbccjcjdbpaa", sum := "f16fe9dc926da78cd6b319a74102fb9aa530ed7cc939dd3b7cc0120c503b2bd3", checked := Try.checked }
namespace Rows
def none {H : Type} : Left H := { results := [], args := [] }

/-- 'laws.FnExactAreDifferent': WHATEVER THE INPUT: true; the input reads as it did. -/
def fnExactAreDifferentSpec : ChangeSpec := { name := "fnExactAreDifferent", fn := fun _ => fun
  | [d] => { results := [.lit (.bool true)], args := [d] }
  | _ => none }
def fnExactAreDifferentRow : OpenClaim := { program := "ytaclbccjcjdbpaa", sum := "f16fe9dc926da78cd6b319a74102fb9aa530ed7cc939dd3b7cc0120c503b2bd3", func := "loop.example/g01259/laws.FnExactAreDifferent", spec := "fnExactAreDifferent", unfollowed := true, recurses := true, apart := false }
def FnExactAreDifferentSaid : Prop := fnExactAreDifferentRow.holds Try.pinned (OpenSpec.ofChange fnExactAreDifferentSpec)

/-- ITS FALSE NEIGHBOUR: 'it returns false'. Refute it at one input. -/
def fnExactAreDifferentWrong : ChangeSpec := { name := "fnExactAreDifferent", fn := fun _ => fun
  | [d] => { results := [.lit (.bool false)], args := [d] }
  | _ => none }
def FnExactAreDifferentWrongFalsely : Prop := fnExactAreDifferentRow.holds Try.pinned (OpenSpec.ofChange fnExactAreDifferentWrong)

/-- 'laws.FnExactHalvingLines': WHATEVER THE INPUT: true; the input reads as it did. -/
def fnExactHalvingLinesSpec : ChangeSpec := { name := "fnExactHalvingLines", fn := fun _ => fun
  | [d] => { results := [.lit (.bool true)], args := [d] }
  | _ => none }
def fnExactHalvingLinesRow : OpenClaim := { program := "ytaclbccjcjdbpaa", sum := "f16fe9dc926da78cd6b319a74102fb9aa530ed7cc939dd3b7cc0120c503b2bd3", func := "loop.example/g01259/laws.FnExactHalvingLines", spec := "fnExactHalvingLines", unfollowed := true, recurses := true, apart := false }
def FnExactHalvingLinesSaid : Prop := fnExactHalvingLinesRow.holds Try.pinned (OpenSpec.ofChange fnExactHalvingLinesSpec)

/-- ITS FALSE NEIGHBOUR: 'it returns false'. Refute it at one input. -/
def fnExactHalvingLinesWrong : ChangeSpec := { name := "fnExactHalvingLines", fn := fun _ => fun
  | [d] => { results := [.lit (.bool false)], args := [d] }
  | _ => none }
def FnExactHalvingLinesWrongFalsely : Prop := fnExactHalvingLinesRow.holds Try.pinned (OpenSpec.ofChange fnExactHalvingLinesWrong)

/-- 'laws.FnExactHasThree': WHATEVER THE INPUT: true; the input reads as it did. -/
def fnExactHasThreeSpec : ChangeSpec := { name := "fnExactHasThree", fn := fun _ => fun
  | [d] => { results := [.lit (.bool true)], args := [d] }
  | _ => none }
def fnExactHasThreeRow : OpenClaim := { program := "ytaclbccjcjdbpaa", sum := "f16fe9dc926da78cd6b319a74102fb9aa530ed7cc939dd3b7cc0120c503b2bd3", func := "loop.example/g01259/laws.FnExactHasThree", spec := "fnExactHasThree", unfollowed := true, recurses := true, apart := false }
def FnExactHasThreeSaid : Prop := fnExactHasThreeRow.holds Try.pinned (OpenSpec.ofChange fnExactHasThreeSpec)

/-- ITS FALSE NEIGHBOUR: 'it returns false'. Refute it at one input. -/
def fnExactHasThreeWrong : ChangeSpec := { name := "fnExactHasThree", fn := fun _ => fun
  | [d] => { results := [.lit (.bool false)], args := [d] }
  | _ => none }
def FnExactHasThreeWrongFalsely : Prop := fnExactHasThreeRow.holds Try.pinned (OpenSpec.ofChange fnExactHasThreeWrong)

/-- 'laws.FnExactFarthestApart': WHATEVER THE INPUT: true; the input reads as it did. -/
def fnExactFarthestApartSpec : ChangeSpec := { name := "fnExactFarthestApart", fn := fun _ => fun
  | [d] => { results := [.lit (.bool true)], args := [d] }
  | _ => none }
def fnExactFarthestApartRow : OpenClaim := { program := "ytaclbccjcjdbpaa", sum := "f16fe9dc926da78cd6b319a74102fb9aa530ed7cc939dd3b7cc0120c503b2bd3", func := "loop.example/g01259/laws.FnExactFarthestApart", spec := "fnExactFarthestApart", unfollowed := true, recurses := true, apart := false }
def FnExactFarthestApartSaid : Prop := fnExactFarthestApartRow.holds Try.pinned (OpenSpec.ofChange fnExactFarthestApartSpec)

/-- ITS FALSE NEIGHBOUR: 'it returns false'. Refute it at one input. -/
def fnExactFarthestApartWrong : ChangeSpec := { name := "fnExactFarthestApart", fn := fun _ => fun
  | [d] => { results := [.lit (.bool false)], args := [d] }
  | _ => none }
def FnExactFarthestApartWrongFalsely : Prop := fnExactFarthestApartRow.holds Try.pinned (OpenSpec.ofChange fnExactFarthestApartWrong)

/-- 'laws.FnExactAreConvex': WHATEVER THE INPUT: true; the input reads as it did. -/
def fnExactAreConvexSpec : ChangeSpec := { name := "fnExactAreConvex", fn := fun _ => fun
  | [d] => { results := [.lit (.bool true)], args := [d] }
  | _ => none }
def fnExactAreConvexRow : OpenClaim := { program := "ytaclbccjcjdbpaa", sum := "f16fe9dc926da78cd6b319a74102fb9aa530ed7cc939dd3b7cc0120c503b2bd3", func := "loop.example/g01259/laws.FnExactAreConvex", spec := "fnExactAreConvex", unfollowed := true, recurses := true, apart := false }
def FnExactAreConvexSaid : Prop := fnExactAreConvexRow.holds Try.pinned (OpenSpec.ofChange fnExactAreConvexSpec)

/-- ITS FALSE NEIGHBOUR: 'it returns false'. Refute it at one input. -/
def fnExactAreConvexWrong : ChangeSpec := { name := "fnExactAreConvex", fn := fun _ => fun
  | [d] => { results := [.lit (.bool false)], args := [d] }
  | _ => none }
def FnExactAreConvexWrongFalsely : Prop := fnExactAreConvexRow.holds Try.pinned (OpenSpec.ofChange fnExactAreConvexWrong)

/-- 'laws.FnExactBandOf': WHATEVER THE INPUT: true; the input reads as it did. -/
def fnExactBandOfSpec : ChangeSpec := { name := "fnExactBandOf", fn := fun _ => fun
  | [d] => { results := [.lit (.bool true)], args := [d] }
  | _ => none }
def fnExactBandOfRow : OpenClaim := { program := "ytaclbccjcjdbpaa", sum := "f16fe9dc926da78cd6b319a74102fb9aa530ed7cc939dd3b7cc0120c503b2bd3", func := "loop.example/g01259/laws.FnExactBandOf", spec := "fnExactBandOf", unfollowed := true, recurses := true, apart := false }
def FnExactBandOfSaid : Prop := fnExactBandOfRow.holds Try.pinned (OpenSpec.ofChange fnExactBandOfSpec)

/-- ITS FALSE NEIGHBOUR: 'it returns false'. Refute it at one input. -/
def fnExactBandOfWrong : ChangeSpec := { name := "fnExactBandOf", fn := fun _ => fun
  | [d] => { results := [.lit (.bool false)], args := [d] }
  | _ => none }
def FnExactBandOfWrongFalsely : Prop := fnExactBandOfRow.holds Try.pinned (OpenSpec.ofChange fnExactBandOfWrong)

/-- 'laws.FnExactJoinBands': WHATEVER THE INPUT: true; the input reads as it did. -/
def fnExactJoinBandsSpec : ChangeSpec := { name := "fnExactJoinBands", fn := fun _ => fun
  | [d1, d2] => { results := [.lit (.bool true)], args := [d1, d2] }
  | _ => none }
def fnExactJoinBandsRow : OpenClaim := { program := "ytaclbccjcjdbpaa", sum := "f16fe9dc926da78cd6b319a74102fb9aa530ed7cc939dd3b7cc0120c503b2bd3", func := "loop.example/g01259/laws.FnExactJoinBands", spec := "fnExactJoinBands", unfollowed := true, recurses := true, apart := false }
def FnExactJoinBandsSaid : Prop := fnExactJoinBandsRow.holds Try.pinned (OpenSpec.ofChange fnExactJoinBandsSpec)

/-- ITS FALSE NEIGHBOUR: 'it returns false'. Refute it at one input. -/
def fnExactJoinBandsWrong : ChangeSpec := { name := "fnExactJoinBands", fn := fun _ => fun
  | [d1, d2] => { results := [.lit (.bool false)], args := [d1, d2] }
  | _ => none }
def FnExactJoinBandsWrongFalsely : Prop := fnExactJoinBandsRow.holds Try.pinned (OpenSpec.ofChange fnExactJoinBandsWrong)

/-- 'laws.FnExactCountConvexFours': WHATEVER THE INPUT: true; the input reads as it did. -/
def fnExactCountConvexFoursSpec : ChangeSpec := { name := "fnExactCountConvexFours", fn := fun _ => fun
  | [d] => { results := [.lit (.bool true)], args := [d] }
  | _ => none }
def fnExactCountConvexFoursRow : OpenClaim := { program := "ytaclbccjcjdbpaa", sum := "f16fe9dc926da78cd6b319a74102fb9aa530ed7cc939dd3b7cc0120c503b2bd3", func := "loop.example/g01259/laws.FnExactCountConvexFours", spec := "fnExactCountConvexFours", unfollowed := true, recurses := true, apart := false }
def FnExactCountConvexFoursSaid : Prop := fnExactCountConvexFoursRow.holds Try.pinned (OpenSpec.ofChange fnExactCountConvexFoursSpec)

/-- ITS FALSE NEIGHBOUR: 'it returns false'. Refute it at one input. -/
def fnExactCountConvexFoursWrong : ChangeSpec := { name := "fnExactCountConvexFours", fn := fun _ => fun
  | [d] => { results := [.lit (.bool false)], args := [d] }
  | _ => none }
def FnExactCountConvexFoursWrongFalsely : Prop := fnExactCountConvexFoursRow.holds Try.pinned (OpenSpec.ofChange fnExactCountConvexFoursWrong)

/-- 'laws.FnExactMostConvex': WHATEVER THE INPUT: true; the input reads as it did. -/
def fnExactMostConvexSpec : ChangeSpec := { name := "fnExactMostConvex", fn := fun _ => fun
  | [d] => { results := [.lit (.bool true)], args := [d] }
  | _ => none }
def fnExactMostConvexRow : OpenClaim := { program := "ytaclbccjcjdbpaa", sum := "f16fe9dc926da78cd6b319a74102fb9aa530ed7cc939dd3b7cc0120c503b2bd3", func := "loop.example/g01259/laws.FnExactMostConvex", spec := "fnExactMostConvex", unfollowed := true, recurses := true, apart := false }
def FnExactMostConvexSaid : Prop := fnExactMostConvexRow.holds Try.pinned (OpenSpec.ofChange fnExactMostConvexSpec)

/-- ITS FALSE NEIGHBOUR: 'it returns false'. Refute it at one input. -/
def fnExactMostConvexWrong : ChangeSpec := { name := "fnExactMostConvex", fn := fun _ => fun
  | [d] => { results := [.lit (.bool false)], args := [d] }
  | _ => none }
def FnExactMostConvexWrongFalsely : Prop := fnExactMostConvexRow.holds Try.pinned (OpenSpec.ofChange fnExactMostConvexWrong)

/-- 'laws.FnExactPegsOnLine': WHATEVER THE INPUT: true; the input reads as it did. -/
def fnExactPegsOnLineSpec : ChangeSpec := { name := "fnExactPegsOnLine", fn := fun _ => fun
  | [d1, d2] => { results := [.lit (.bool true)], args := [d1, d2] }
  | _ => none }
def fnExactPegsOnLineRow : OpenClaim := { program := "ytaclbccjcjdbpaa", sum := "f16fe9dc926da78cd6b319a74102fb9aa530ed7cc939dd3b7cc0120c503b2bd3", func := "loop.example/g01259/laws.FnExactPegsOnLine", spec := "fnExactPegsOnLine", unfollowed := true, recurses := true, apart := false }
def FnExactPegsOnLineSaid : Prop := fnExactPegsOnLineRow.holds Try.pinned (OpenSpec.ofChange fnExactPegsOnLineSpec)

/-- ITS FALSE NEIGHBOUR: 'it returns false'. Refute it at one input. -/
def fnExactPegsOnLineWrong : ChangeSpec := { name := "fnExactPegsOnLine", fn := fun _ => fun
  | [d1, d2] => { results := [.lit (.bool false)], args := [d1, d2] }
  | _ => none }
def FnExactPegsOnLineWrongFalsely : Prop := fnExactPegsOnLineRow.holds Try.pinned (OpenSpec.ofChange fnExactPegsOnLineWrong)

/-- 'laws.FnExactDoLinesMeet': WHATEVER THE INPUT: true; the input reads as it did. -/
def fnExactDoLinesMeetSpec : ChangeSpec := { name := "fnExactDoLinesMeet", fn := fun _ => fun
  | [d1, d2, d3, d4] => { results := [.lit (.bool true)], args := [d1, d2, d3, d4] }
  | _ => none }
def fnExactDoLinesMeetRow : OpenClaim := { program := "ytaclbccjcjdbpaa", sum := "f16fe9dc926da78cd6b319a74102fb9aa530ed7cc939dd3b7cc0120c503b2bd3", func := "loop.example/g01259/laws.FnExactDoLinesMeet", spec := "fnExactDoLinesMeet", unfollowed := true, recurses := true, apart := false }
def FnExactDoLinesMeetSaid : Prop := fnExactDoLinesMeetRow.holds Try.pinned (OpenSpec.ofChange fnExactDoLinesMeetSpec)

/-- ITS FALSE NEIGHBOUR: 'it returns false'. Refute it at one input. -/
def fnExactDoLinesMeetWrong : ChangeSpec := { name := "fnExactDoLinesMeet", fn := fun _ => fun
  | [d1, d2, d3, d4] => { results := [.lit (.bool false)], args := [d1, d2, d3, d4] }
  | _ => none }
def FnExactDoLinesMeetWrongFalsely : Prop := fnExactDoLinesMeetRow.holds Try.pinned (OpenSpec.ofChange fnExactDoLinesMeetWrong)

/-- 'laws.FnExactIsOnLine': WHATEVER THE INPUT: true; the input reads as it did. -/
def fnExactIsOnLineSpec : ChangeSpec := { name := "fnExactIsOnLine", fn := fun _ => fun
  | [d1, d2, d3] => { results := [.lit (.bool true)], args := [d1, d2, d3] }
  | _ => none }
def fnExactIsOnLineRow : OpenClaim := { program := "ytaclbccjcjdbpaa", sum := "f16fe9dc926da78cd6b319a74102fb9aa530ed7cc939dd3b7cc0120c503b2bd3", func := "loop.example/g01259/laws.FnExactIsOnLine", spec := "fnExactIsOnLine", unfollowed := true, recurses := true, apart := false }
def FnExactIsOnLineSaid : Prop := fnExactIsOnLineRow.holds Try.pinned (OpenSpec.ofChange fnExactIsOnLineSpec)

/-- ITS FALSE NEIGHBOUR: 'it returns false'. Refute it at one input. -/
def fnExactIsOnLineWrong : ChangeSpec := { name := "fnExactIsOnLine", fn := fun _ => fun
  | [d1, d2, d3] => { results := [.lit (.bool false)], args := [d1, d2, d3] }
  | _ => none }
def FnExactIsOnLineWrongFalsely : Prop := fnExactIsOnLineRow.holds Try.pinned (OpenSpec.ofChange fnExactIsOnLineWrong)

/- THE SECOND FORM. 'bulk': how many values and letters a reading holds, each counted each time it is reached (what is shared counts as often as it is met; a slice's spare places count too). A statement '..UptoSaid' is the law's where the arguments, and the package variables that the reading takes, are together of bulk at most 1048576: NARROWER than '..Said'. Prove '..Said' where nothing that the law and all that it calls make is longer than what came in: it says more and counts as full. Else prove '..UptoSaid'. A law counts once. -/
mutual
def uptoBulk {H : Type} : DataW H → Nat
  | .lit (.string bytes) => bytes.length + 1
  | .lit _ => 1
  | .nil => 1
  | .ptr d => uptoBulk d + 1
  | .slice elems spare => uptoBulkAll elems + uptoBulkAll spare + 1
  | .agg parts => uptoBulkAll parts + 1
  | .iface _ d => uptoBulk d + 1
  | .map entries => uptoBulkEntries entries + 1
  | .held _ => 1
def uptoBulkAll {H : Type} : List (DataW H) → Nat
  | [] => 0
  | d :: r => uptoBulk d + uptoBulkAll r
def uptoBulkEntries {H : Type} : List (Lit × DataW H) → Nat
  | [] => 0
  | x :: r => uptoBulkEntry x + uptoBulkEntries r
def uptoBulkEntry {H : Type} : Lit × DataW H → Nat
  | (.string bytes, d) => bytes.length + uptoBulk d + 1
  | (_, d) => uptoBulk d + 1
 end
def uptoSmall : (H : Type) → List (DataW H) → Bool := fun _ ds => decide (uptoBulkAll ds ≤ 1048576)
def OpenSpec.upto (s : _root_.Go.ChangeSpec) : _root_.Go.OpenSpec := { _root_.Go.OpenSpec.ofChange s with cond := some uptoSmall }

/-- 'laws.FnExactAreDifferent', WHERE WHAT IT READS IS OF BULK AT MOST 1048576: true; the input reads as it did. -/
def fnExactAreDifferentUptoRow : OpenClaim := { program := "ytaclbccjcjdbpaa", sum := "f16fe9dc926da78cd6b319a74102fb9aa530ed7cc939dd3b7cc0120c503b2bd3", func := "loop.example/g01259/laws.FnExactAreDifferent", spec := "fnExactAreDifferent", unfollowed := true, recurses := true, apart := false, narrowed := true }
def FnExactAreDifferentUptoSaid : Prop := fnExactAreDifferentUptoRow.holds Try.pinned (OpenSpec.upto fnExactAreDifferentSpec)

/-- 'laws.FnExactHalvingLines', WHERE WHAT IT READS IS OF BULK AT MOST 1048576: true; the input reads as it did. -/
def fnExactHalvingLinesUptoRow : OpenClaim := { program := "ytaclbccjcjdbpaa", sum := "f16fe9dc926da78cd6b319a74102fb9aa530ed7cc939dd3b7cc0120c503b2bd3", func := "loop.example/g01259/laws.FnExactHalvingLines", spec := "fnExactHalvingLines", unfollowed := true, recurses := true, apart := false, narrowed := true }
def FnExactHalvingLinesUptoSaid : Prop := fnExactHalvingLinesUptoRow.holds Try.pinned (OpenSpec.upto fnExactHalvingLinesSpec)

/-- 'laws.FnExactHasThree', WHERE WHAT IT READS IS OF BULK AT MOST 1048576: true; the input reads as it did. -/
def fnExactHasThreeUptoRow : OpenClaim := { program := "ytaclbccjcjdbpaa", sum := "f16fe9dc926da78cd6b319a74102fb9aa530ed7cc939dd3b7cc0120c503b2bd3", func := "loop.example/g01259/laws.FnExactHasThree", spec := "fnExactHasThree", unfollowed := true, recurses := true, apart := false, narrowed := true }
def FnExactHasThreeUptoSaid : Prop := fnExactHasThreeUptoRow.holds Try.pinned (OpenSpec.upto fnExactHasThreeSpec)

/-- 'laws.FnExactFarthestApart', WHERE WHAT IT READS IS OF BULK AT MOST 1048576: true; the input reads as it did. -/
def fnExactFarthestApartUptoRow : OpenClaim := { program := "ytaclbccjcjdbpaa", sum := "f16fe9dc926da78cd6b319a74102fb9aa530ed7cc939dd3b7cc0120c503b2bd3", func := "loop.example/g01259/laws.FnExactFarthestApart", spec := "fnExactFarthestApart", unfollowed := true, recurses := true, apart := false, narrowed := true }
def FnExactFarthestApartUptoSaid : Prop := fnExactFarthestApartUptoRow.holds Try.pinned (OpenSpec.upto fnExactFarthestApartSpec)

/-- 'laws.FnExactAreConvex', WHERE WHAT IT READS IS OF BULK AT MOST 1048576: true; the input reads as it did. -/
def fnExactAreConvexUptoRow : OpenClaim := { program := "ytaclbccjcjdbpaa", sum := "f16fe9dc926da78cd6b319a74102fb9aa530ed7cc939dd3b7cc0120c503b2bd3", func := "loop.example/g01259/laws.FnExactAreConvex", spec := "fnExactAreConvex", unfollowed := true, recurses := true, apart := false, narrowed := true }
def FnExactAreConvexUptoSaid : Prop := fnExactAreConvexUptoRow.holds Try.pinned (OpenSpec.upto fnExactAreConvexSpec)

/-- 'laws.FnExactBandOf', WHERE WHAT IT READS IS OF BULK AT MOST 1048576: true; the input reads as it did. -/
def fnExactBandOfUptoRow : OpenClaim := { program := "ytaclbccjcjdbpaa", sum := "f16fe9dc926da78cd6b319a74102fb9aa530ed7cc939dd3b7cc0120c503b2bd3", func := "loop.example/g01259/laws.FnExactBandOf", spec := "fnExactBandOf", unfollowed := true, recurses := true, apart := false, narrowed := true }
def FnExactBandOfUptoSaid : Prop := fnExactBandOfUptoRow.holds Try.pinned (OpenSpec.upto fnExactBandOfSpec)

/-- 'laws.FnExactJoinBands', WHERE WHAT IT READS IS OF BULK AT MOST 1048576: true; the input reads as it did. -/
def fnExactJoinBandsUptoRow : OpenClaim := { program := "ytaclbccjcjdbpaa", sum := "f16fe9dc926da78cd6b319a74102fb9aa530ed7cc939dd3b7cc0120c503b2bd3", func := "loop.example/g01259/laws.FnExactJoinBands", spec := "fnExactJoinBands", unfollowed := true, recurses := true, apart := false, narrowed := true }
def FnExactJoinBandsUptoSaid : Prop := fnExactJoinBandsUptoRow.holds Try.pinned (OpenSpec.upto fnExactJoinBandsSpec)

/-- 'laws.FnExactCountConvexFours', WHERE WHAT IT READS IS OF BULK AT MOST 1048576: true; the input reads as it did. -/
def fnExactCountConvexFoursUptoRow : OpenClaim := { program := "ytaclbccjcjdbpaa", sum := "f16fe9dc926da78cd6b319a74102fb9aa530ed7cc939dd3b7cc0120c503b2bd3", func := "loop.example/g01259/laws.FnExactCountConvexFours", spec := "fnExactCountConvexFours", unfollowed := true, recurses := true, apart := false, narrowed := true }
def FnExactCountConvexFoursUptoSaid : Prop := fnExactCountConvexFoursUptoRow.holds Try.pinned (OpenSpec.upto fnExactCountConvexFoursSpec)

/-- 'laws.FnExactMostConvex', WHERE WHAT IT READS IS OF BULK AT MOST 1048576: true; the input reads as it did. -/
def fnExactMostConvexUptoRow : OpenClaim := { program := "ytaclbccjcjdbpaa", sum := "f16fe9dc926da78cd6b319a74102fb9aa530ed7cc939dd3b7cc0120c503b2bd3", func := "loop.example/g01259/laws.FnExactMostConvex", spec := "fnExactMostConvex", unfollowed := true, recurses := true, apart := false, narrowed := true }
def FnExactMostConvexUptoSaid : Prop := fnExactMostConvexUptoRow.holds Try.pinned (OpenSpec.upto fnExactMostConvexSpec)

/-- 'laws.FnExactPegsOnLine', WHERE WHAT IT READS IS OF BULK AT MOST 1048576: true; the input reads as it did. -/
def fnExactPegsOnLineUptoRow : OpenClaim := { program := "ytaclbccjcjdbpaa", sum := "f16fe9dc926da78cd6b319a74102fb9aa530ed7cc939dd3b7cc0120c503b2bd3", func := "loop.example/g01259/laws.FnExactPegsOnLine", spec := "fnExactPegsOnLine", unfollowed := true, recurses := true, apart := false, narrowed := true }
def FnExactPegsOnLineUptoSaid : Prop := fnExactPegsOnLineUptoRow.holds Try.pinned (OpenSpec.upto fnExactPegsOnLineSpec)

/-- 'laws.FnExactDoLinesMeet', WHERE WHAT IT READS IS OF BULK AT MOST 1048576: true; the input reads as it did. -/
def fnExactDoLinesMeetUptoRow : OpenClaim := { program := "ytaclbccjcjdbpaa", sum := "f16fe9dc926da78cd6b319a74102fb9aa530ed7cc939dd3b7cc0120c503b2bd3", func := "loop.example/g01259/laws.FnExactDoLinesMeet", spec := "fnExactDoLinesMeet", unfollowed := true, recurses := true, apart := false, narrowed := true }
def FnExactDoLinesMeetUptoSaid : Prop := fnExactDoLinesMeetUptoRow.holds Try.pinned (OpenSpec.upto fnExactDoLinesMeetSpec)

/-- 'laws.FnExactIsOnLine', WHERE WHAT IT READS IS OF BULK AT MOST 1048576: true; the input reads as it did. -/
def fnExactIsOnLineUptoRow : OpenClaim := { program := "ytaclbccjcjdbpaa", sum := "f16fe9dc926da78cd6b319a74102fb9aa530ed7cc939dd3b7cc0120c503b2bd3", func := "loop.example/g01259/laws.FnExactIsOnLine", spec := "fnExactIsOnLine", unfollowed := true, recurses := true, apart := false, narrowed := true }
def FnExactIsOnLineUptoSaid : Prop := fnExactIsOnLineUptoRow.holds Try.pinned (OpenSpec.upto fnExactIsOnLineSpec)

end Rows
end Go.Proofs.Ytaclbccjcjdbpaa
