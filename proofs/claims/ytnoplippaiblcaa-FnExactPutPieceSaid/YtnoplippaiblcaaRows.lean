/-
  No cell of these rows narrows 'for every input' (looked for: loops, veiled, ifaces, maps, wideKeys, modest, calm, conditions, laid).
  DERIVED. THE GIVEN ROWS OF THIS SEAT. 8 by the template 'for every input the law returns true; each argument reads behind the call as it read before'; 0 by the template 'total and deterministic' (their statements: YtnoplippaiblcaaTotals.lean).
  GIVEN WITH THE SEED: the statements are not yours to turn. If you find one false, say at which input.
  Laid BY PROGRAM, IN A SANDBOX (cutbox-rows.mjs): the forced cells as the released guide's own fill.sh prints them over the translation b456261c64dbca99… (all of the seat's roots in one cut). By AI agents, Wed Nov 11 2026. No macro, syntax, notation, axiom, sorry.
-/
import Derived.Test.YtnoplippaiblcaaChecked
import GoSem.Claim
import GoSem.ClaimJoined
import GoSem.ClaimMapViews
import Derived.JoinedTies
import Derived.KernelRfl
namespace Go.Proofs.Ytnoplippaiblcaa
/- THE CELL 'sum', in the pinned program and in every row, IS THE sha256 OF THE DUMP (.gsa) THAT YtnoplippaiblcaaProg.lean LOADS. Nothing in Lean hashes anything: it is a label: what it is worth is what the hold of that sum in a sandbox is worth. -/
noncomputable def Try.pinned : Pinned := { name := "ytnoplippaiblcaa", sum := "b456261c64dbca9961cd8e12b5e9f1c3078852ec1b0cc67528311da25d8a29ef", checked := Try.checked }
namespace Rows
def none {H : Type} : Left H := { results := [], args := [] }

/-- 'laws.FnExactMissing': WHATEVER THE INPUT: true; the input reads as it did. -/
def fnExactMissingSpec : ChangeSpec := { name := "fnExactMissing", fn := fun _ => fun
  | [d1, d2] => { results := [.lit (.bool true)], args := [d1, d2] }
  | _ => none }
def fnExactMissingRow : OpenClaim := { program := "ytnoplippaiblcaa", sum := "b456261c64dbca9961cd8e12b5e9f1c3078852ec1b0cc67528311da25d8a29ef", func := "loop.example/g00503/laws.FnExactMissing", spec := "fnExactMissing", apart := false }
def FnExactMissingSaid : Prop := fnExactMissingRow.holds Try.pinned (OpenSpec.ofChange fnExactMissingSpec)

/-- ITS FALSE NEIGHBOUR: 'it returns false'. Refute it at one input. -/
def fnExactMissingWrong : ChangeSpec := { name := "fnExactMissing", fn := fun _ => fun
  | [d1, d2] => { results := [.lit (.bool false)], args := [d1, d2] }
  | _ => none }
def FnExactMissingWrongFalsely : Prop := fnExactMissingRow.holds Try.pinned (OpenSpec.ofChange fnExactMissingWrong)

/-- 'laws.FnExactBuildNew': WHATEVER THE INPUT: true; the input reads as it did. -/
def fnExactBuildNewSpec : ChangeSpec := { name := "fnExactBuildNew", fn := fun _ => fun
  | [d] => { results := [.lit (.bool true)], args := [d] }
  | _ => none }
def fnExactBuildNewRow : OpenClaim := { program := "ytnoplippaiblcaa", sum := "b456261c64dbca9961cd8e12b5e9f1c3078852ec1b0cc67528311da25d8a29ef", func := "loop.example/g00503/laws.FnExactBuildNew", spec := "fnExactBuildNew", apart := false }
def FnExactBuildNewSaid : Prop := fnExactBuildNewRow.holds Try.pinned (OpenSpec.ofChange fnExactBuildNewSpec)

/-- ITS FALSE NEIGHBOUR: 'it returns false'. Refute it at one input. -/
def fnExactBuildNewWrong : ChangeSpec := { name := "fnExactBuildNew", fn := fun _ => fun
  | [d] => { results := [.lit (.bool false)], args := [d] }
  | _ => none }
def FnExactBuildNewWrongFalsely : Prop := fnExactBuildNewRow.holds Try.pinned (OpenSpec.ofChange fnExactBuildNewWrong)

/-- 'laws.FnExactBytesLacking': WHATEVER THE INPUT: true; the input reads as it did. -/
def fnExactBytesLackingSpec : ChangeSpec := { name := "fnExactBytesLacking", fn := fun _ => fun
  | [d1, d2] => { results := [.lit (.bool true)], args := [d1, d2] }
  | _ => none }
def fnExactBytesLackingRow : OpenClaim := { program := "ytnoplippaiblcaa", sum := "b456261c64dbca9961cd8e12b5e9f1c3078852ec1b0cc67528311da25d8a29ef", func := "loop.example/g00503/laws.FnExactBytesLacking", spec := "fnExactBytesLacking", apart := false }
def FnExactBytesLackingSaid : Prop := fnExactBytesLackingRow.holds Try.pinned (OpenSpec.ofChange fnExactBytesLackingSpec)

/-- ITS FALSE NEIGHBOUR: 'it returns false'. Refute it at one input. -/
def fnExactBytesLackingWrong : ChangeSpec := { name := "fnExactBytesLacking", fn := fun _ => fun
  | [d1, d2] => { results := [.lit (.bool false)], args := [d1, d2] }
  | _ => none }
def FnExactBytesLackingWrongFalsely : Prop := fnExactBytesLackingRow.holds Try.pinned (OpenSpec.ofChange fnExactBytesLackingWrong)

/-- 'laws.FnExactBuildOk': WHATEVER THE INPUT: true; the input reads as it did. -/
def fnExactBuildOkSpec : ChangeSpec := { name := "fnExactBuildOk", fn := fun _ => fun
  | [d1, d2] => { results := [.lit (.bool true)], args := [d1, d2] }
  | _ => none }
def fnExactBuildOkRow : OpenClaim := { program := "ytnoplippaiblcaa", sum := "b456261c64dbca9961cd8e12b5e9f1c3078852ec1b0cc67528311da25d8a29ef", func := "loop.example/g00503/laws.FnExactBuildOk", spec := "fnExactBuildOk", unfollowed := true, recurses := true, apart := false }
def FnExactBuildOkSaid : Prop := fnExactBuildOkRow.holds Try.pinned (OpenSpec.ofChange fnExactBuildOkSpec)

/-- ITS FALSE NEIGHBOUR: 'it returns false'. Refute it at one input. -/
def fnExactBuildOkWrong : ChangeSpec := { name := "fnExactBuildOk", fn := fun _ => fun
  | [d1, d2] => { results := [.lit (.bool false)], args := [d1, d2] }
  | _ => none }
def FnExactBuildOkWrongFalsely : Prop := fnExactBuildOkRow.holds Try.pinned (OpenSpec.ofChange fnExactBuildOkWrong)

/-- 'laws.FnExactWhole': WHATEVER THE INPUT: true; the input reads as it did. -/
def fnExactWholeSpec : ChangeSpec := { name := "fnExactWhole", fn := fun _ => fun
  | [d1, d2] => { results := [.lit (.bool true)], args := [d1, d2] }
  | _ => none }
def fnExactWholeRow : OpenClaim := { program := "ytnoplippaiblcaa", sum := "b456261c64dbca9961cd8e12b5e9f1c3078852ec1b0cc67528311da25d8a29ef", func := "loop.example/g00503/laws.FnExactWhole", spec := "fnExactWhole", unfollowed := true, recurses := true, apart := false }
def FnExactWholeSaid : Prop := fnExactWholeRow.holds Try.pinned (OpenSpec.ofChange fnExactWholeSpec)

/-- ITS FALSE NEIGHBOUR: 'it returns false'. Refute it at one input. -/
def fnExactWholeWrong : ChangeSpec := { name := "fnExactWhole", fn := fun _ => fun
  | [d1, d2] => { results := [.lit (.bool false)], args := [d1, d2] }
  | _ => none }
def FnExactWholeWrongFalsely : Prop := fnExactWholeRow.holds Try.pinned (OpenSpec.ofChange fnExactWholeWrong)

/-- 'laws.FnExactPieceAt': WHATEVER THE INPUT: true; the input reads as it did. -/
def fnExactPieceAtSpec : ChangeSpec := { name := "fnExactPieceAt", fn := fun _ => fun
  | [d1, d2, d3] => { results := [.lit (.bool true)], args := [d1, d2, d3] }
  | _ => none }
def fnExactPieceAtRow : OpenClaim := { program := "ytnoplippaiblcaa", sum := "b456261c64dbca9961cd8e12b5e9f1c3078852ec1b0cc67528311da25d8a29ef", func := "loop.example/g00503/laws.FnExactPieceAt", spec := "fnExactPieceAt", unfollowed := true, recurses := true, apart := false }
def FnExactPieceAtSaid : Prop := fnExactPieceAtRow.holds Try.pinned (OpenSpec.ofChange fnExactPieceAtSpec)

/-- ITS FALSE NEIGHBOUR: 'it returns false'. Refute it at one input. -/
def fnExactPieceAtWrong : ChangeSpec := { name := "fnExactPieceAt", fn := fun _ => fun
  | [d1, d2, d3] => { results := [.lit (.bool false)], args := [d1, d2, d3] }
  | _ => none }
def FnExactPieceAtWrongFalsely : Prop := fnExactPieceAtRow.holds Try.pinned (OpenSpec.ofChange fnExactPieceAtWrong)

/-- 'laws.FnExactPutPiece': WHATEVER THE INPUT: true; the input reads as it did. -/
def fnExactPutPieceSpec : ChangeSpec := { name := "fnExactPutPiece", fn := fun _ => fun
  | [d1, d2, d3, d4] => { results := [.lit (.bool true)], args := [d1, d2, d3, d4] }
  | _ => none }
def fnExactPutPieceRow : OpenClaim := { program := "ytnoplippaiblcaa", sum := "b456261c64dbca9961cd8e12b5e9f1c3078852ec1b0cc67528311da25d8a29ef", func := "loop.example/g00503/laws.FnExactPutPiece", spec := "fnExactPutPiece", unfollowed := true, recurses := true, apart := false }
def FnExactPutPieceSaid : Prop := fnExactPutPieceRow.holds Try.pinned (OpenSpec.ofChange fnExactPutPieceSpec)

/-- ITS FALSE NEIGHBOUR: 'it returns false'. Refute it at one input. -/
def fnExactPutPieceWrong : ChangeSpec := { name := "fnExactPutPiece", fn := fun _ => fun
  | [d1, d2, d3, d4] => { results := [.lit (.bool false)], args := [d1, d2, d3, d4] }
  | _ => none }
def FnExactPutPieceWrongFalsely : Prop := fnExactPutPieceRow.holds Try.pinned (OpenSpec.ofChange fnExactPutPieceWrong)

/-- 'laws.FnExactBuildFrom': WHATEVER THE INPUT: true; the input reads as it did. -/
def fnExactBuildFromSpec : ChangeSpec := { name := "fnExactBuildFrom", fn := fun _ => fun
  | [d1, d2] => { results := [.lit (.bool true)], args := [d1, d2] }
  | _ => none }
def fnExactBuildFromRow : OpenClaim := { program := "ytnoplippaiblcaa", sum := "b456261c64dbca9961cd8e12b5e9f1c3078852ec1b0cc67528311da25d8a29ef", func := "loop.example/g00503/laws.FnExactBuildFrom", spec := "fnExactBuildFrom", apart := false }
def FnExactBuildFromSaid : Prop := fnExactBuildFromRow.holds Try.pinned (OpenSpec.ofChange fnExactBuildFromSpec)

/-- ITS FALSE NEIGHBOUR: 'it returns false'. Refute it at one input. -/
def fnExactBuildFromWrong : ChangeSpec := { name := "fnExactBuildFrom", fn := fun _ => fun
  | [d1, d2] => { results := [.lit (.bool false)], args := [d1, d2] }
  | _ => none }
def FnExactBuildFromWrongFalsely : Prop := fnExactBuildFromRow.holds Try.pinned (OpenSpec.ofChange fnExactBuildFromWrong)

/- THE SECOND FORM. 'bulk': how many values and letters a reading holds, each counted each time it is reached (what is shared counts as often as it is met; a slice's spare places count too). A statement '..UptoSaid' is the law's where the arguments, and the package variables that the reading takes, are together of bulk at most 1048576: NARROWER than '..Said'. Prove '..Said' where nothing that the law and all that it calls make is longer than what came in: it says more and counts as full. Else prove '..UptoSaid'. A law counts once. -/
mutual
def uptoBulk {H : Type} : DataW H → Nat
  | .lit (.string bytes) => bytes.length + 1
  | .lit _ => 1
  | .nil => 1
  | .ptr d => uptoBulk d + 1
  | .slice elems spare => uptoBulkAll elems + uptoBulkAll spare + 1
  | .agg parts => uptoBulkAll parts + 1
  | .iface _ d => uptoBulk d + 1
  | .map entries => uptoBulkEntries entries + 1
  | .held _ => 1
def uptoBulkAll {H : Type} : List (DataW H) → Nat
  | [] => 0
  | d :: r => uptoBulk d + uptoBulkAll r
def uptoBulkEntries {H : Type} : List (Lit × DataW H) → Nat
  | [] => 0
  | x :: r => uptoBulkEntry x + uptoBulkEntries r
def uptoBulkEntry {H : Type} : Lit × DataW H → Nat
  | (.string bytes, d) => bytes.length + uptoBulk d + 1
  | (_, d) => uptoBulk d + 1
 end
def uptoSmall : (H : Type) → List (DataW H) → Bool := fun _ ds => decide (uptoBulkAll ds ≤ 1048576)
def OpenSpec.upto (s : _root_.Go.ChangeSpec) : _root_.Go.OpenSpec := { _root_.Go.OpenSpec.ofChange s with cond := some uptoSmall }

/-- 'laws.FnExactMissing', WHERE WHAT IT READS IS OF BULK AT MOST 1048576: true; the input reads as it did. -/
def fnExactMissingUptoRow : OpenClaim := { program := "ytnoplippaiblcaa", sum := "b456261c64dbca9961cd8e12b5e9f1c3078852ec1b0cc67528311da25d8a29ef", func := "loop.example/g00503/laws.FnExactMissing", spec := "fnExactMissing", apart := false, narrowed := true }
def FnExactMissingUptoSaid : Prop := fnExactMissingUptoRow.holds Try.pinned (OpenSpec.upto fnExactMissingSpec)

/-- 'laws.FnExactBuildNew', WHERE WHAT IT READS IS OF BULK AT MOST 1048576: true; the input reads as it did. -/
def fnExactBuildNewUptoRow : OpenClaim := { program := "ytnoplippaiblcaa", sum := "b456261c64dbca9961cd8e12b5e9f1c3078852ec1b0cc67528311da25d8a29ef", func := "loop.example/g00503/laws.FnExactBuildNew", spec := "fnExactBuildNew", apart := false, narrowed := true }
def FnExactBuildNewUptoSaid : Prop := fnExactBuildNewUptoRow.holds Try.pinned (OpenSpec.upto fnExactBuildNewSpec)

/-- 'laws.FnExactBytesLacking', WHERE WHAT IT READS IS OF BULK AT MOST 1048576: true; the input reads as it did. -/
def fnExactBytesLackingUptoRow : OpenClaim := { program := "ytnoplippaiblcaa", sum := "b456261c64dbca9961cd8e12b5e9f1c3078852ec1b0cc67528311da25d8a29ef", func := "loop.example/g00503/laws.FnExactBytesLacking", spec := "fnExactBytesLacking", apart := false, narrowed := true }
def FnExactBytesLackingUptoSaid : Prop := fnExactBytesLackingUptoRow.holds Try.pinned (OpenSpec.upto fnExactBytesLackingSpec)

/-- 'laws.FnExactBuildOk', WHERE WHAT IT READS IS OF BULK AT MOST 1048576: true; the input reads as it did. -/
def fnExactBuildOkUptoRow : OpenClaim := { program := "ytnoplippaiblcaa", sum := "b456261c64dbca9961cd8e12b5e9f1c3078852ec1b0cc67528311da25d8a29ef", func := "loop.example/g00503/laws.FnExactBuildOk", spec := "fnExactBuildOk", unfollowed := true, recurses := true, apart := false, narrowed := true }
def FnExactBuildOkUptoSaid : Prop := fnExactBuildOkUptoRow.holds Try.pinned (OpenSpec.upto fnExactBuildOkSpec)

/-- 'laws.FnExactWhole', WHERE WHAT IT READS IS OF BULK AT MOST 1048576: true; the input reads as it did. -/
def fnExactWholeUptoRow : OpenClaim := { program := "ytnoplippaiblcaa", sum := "b456261c64dbca9961cd8e12b5e9f1c3078852ec1b0cc67528311da25d8a29ef", func := "loop.example/g00503/laws.FnExactWhole", spec := "fnExactWhole", unfollowed := true, recurses := true, apart := false, narrowed := true }
def FnExactWholeUptoSaid : Prop := fnExactWholeUptoRow.holds Try.pinned (OpenSpec.upto fnExactWholeSpec)

/-- 'laws.FnExactPieceAt', WHERE WHAT IT READS IS OF BULK AT MOST 1048576: true; the input reads as it did. -/
def fnExactPieceAtUptoRow : OpenClaim := { program := "ytnoplippaiblcaa", sum := "b456261c64dbca9961cd8e12b5e9f1c3078852ec1b0cc67528311da25d8a29ef", func := "loop.example/g00503/laws.FnExactPieceAt", spec := "fnExactPieceAt", unfollowed := true, recurses := true, apart := false, narrowed := true }
def FnExactPieceAtUptoSaid : Prop := fnExactPieceAtUptoRow.holds Try.pinned (OpenSpec.upto fnExactPieceAtSpec)

/-- 'laws.FnExactPutPiece', WHERE WHAT IT READS IS OF BULK AT MOST 1048576: true; the input reads as it did. -/
def fnExactPutPieceUptoRow : OpenClaim := { program := "ytnoplippaiblcaa", sum := "b456261c64dbca9961cd8e12b5e9f1c3078852ec1b0cc67528311da25d8a29ef", func := "loop.example/g00503/laws.FnExactPutPiece", spec := "fnExactPutPiece", unfollowed := true, recurses := true, apart := false, narrowed := true }
def FnExactPutPieceUptoSaid : Prop := fnExactPutPieceUptoRow.holds Try.pinned (OpenSpec.upto fnExactPutPieceSpec)

/-- 'laws.FnExactBuildFrom', WHERE WHAT IT READS IS OF BULK AT MOST 1048576: true; the input reads as it did. -/
def fnExactBuildFromUptoRow : OpenClaim := { program := "ytnoplippaiblcaa", sum := "b456261c64dbca9961cd8e12b5e9f1c3078852ec1b0cc67528311da25d8a29ef", func := "loop.example/g00503/laws.FnExactBuildFrom", spec := "fnExactBuildFrom", apart := false, narrowed := true }
def FnExactBuildFromUptoSaid : Prop := fnExactBuildFromUptoRow.holds Try.pinned (OpenSpec.upto fnExactBuildFromSpec)

end Rows
end Go.Proofs.Ytnoplippaiblcaa
