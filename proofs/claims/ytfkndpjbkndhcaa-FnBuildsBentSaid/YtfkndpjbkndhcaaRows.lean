/-
  No cell of these rows narrows 'for every input' (looked for: loops, veiled, ifaces, maps, wideKeys, modest, calm, conditions, laid).
  DERIVED. THE GIVEN ROWS OF THIS SEAT. 5 by the template 'for every input the law returns true; each argument reads behind the call as it read before'; 0 by the template 'total and deterministic' (their statements: YtfkndpjbkndhcaaTotals.lean).
  GIVEN WITH THE SEED: the statements are not yours to turn. If you find one false, say at which input.
  Laid BY PROGRAM, IN A SANDBOX (cutbox-rows.mjs): the forced cells as the released guide's own fill.sh prints them over the translation b55fd37d863eeb3f… (all of the seat's roots in one cut). By AI agents, Wed Nov 11 2026. No macro, syntax, notation, axiom, sorry.
-/
import Derived.Test.YtfkndpjbkndhcaaChecked
import GoSem.Claim
import GoSem.ClaimJoined
import GoSem.ClaimMapViews
import Derived.JoinedTies
import Derived.KernelRfl
namespace Go.Proofs.Ytfkndpjbkndhcaa
/- THE CELL 'sum', in the pinned program and in every row, IS THE sha256 OF THE DUMP (.gsa) THAT YtfkndpjbkndhcaaProg.lean LOADS. Nothing in Lean hashes anything: it is a label: what it is worth is what the hold of that sum in a sandbox is worth. -/
noncomputable def Try.pinned : Pinned := { name := "ytfkndpjbkndhcaa", sum := "b55fd37d863eeb3fe7c5beaa7204047a3e243ac3c27f19bb04a65af2f09558ed", checked := Try.checked }
namespace Rows
def none {H : Type} : Left H := { results := [], args := [] }

/-- 'laws.FnAnyOrder': WHATEVER THE INPUT: true; the input reads as it did. -/
def fnAnyOrderSpec : ChangeSpec := { name := "fnAnyOrder", fn := fun _ => fun
  | [d] => { results := [.lit (.bool true)], args := [d] }
  | _ => none }
def fnAnyOrderRow : OpenClaim := { program := "ytfkndpjbkndhcaa", sum := "b55fd37d863eeb3fe7c5beaa7204047a3e243ac3c27f19bb04a65af2f09558ed", func := "loop.example/g00503/laws.FnAnyOrder", spec := "fnAnyOrder", unfollowed := true, recurses := true, apart := false }
def FnAnyOrderSaid : Prop := fnAnyOrderRow.holds Try.pinned (OpenSpec.ofChange fnAnyOrderSpec)

/-- ITS FALSE NEIGHBOUR: 'it returns false'. Refute it at one input. -/
def fnAnyOrderWrong : ChangeSpec := { name := "fnAnyOrder", fn := fun _ => fun
  | [d] => { results := [.lit (.bool false)], args := [d] }
  | _ => none }
def FnAnyOrderWrongFalsely : Prop := fnAnyOrderRow.holds Try.pinned (OpenSpec.ofChange fnAnyOrderWrong)

/-- 'laws.FnShift': WHATEVER THE INPUT: true; the input reads as it did. -/
def fnShiftSpec : ChangeSpec := { name := "fnShift", fn := fun _ => fun
  | [d] => { results := [.lit (.bool true)], args := [d] }
  | _ => none }
def fnShiftRow : OpenClaim := { program := "ytfkndpjbkndhcaa", sum := "b55fd37d863eeb3fe7c5beaa7204047a3e243ac3c27f19bb04a65af2f09558ed", func := "loop.example/g00503/laws.FnShift", spec := "fnShift", apart := false }
def FnShiftSaid : Prop := fnShiftRow.holds Try.pinned (OpenSpec.ofChange fnShiftSpec)

/-- ITS FALSE NEIGHBOUR: 'it returns false'. Refute it at one input. -/
def fnShiftWrong : ChangeSpec := { name := "fnShift", fn := fun _ => fun
  | [d] => { results := [.lit (.bool false)], args := [d] }
  | _ => none }
def FnShiftWrongFalsely : Prop := fnShiftRow.holds Try.pinned (OpenSpec.ofChange fnShiftWrong)

/-- 'laws.FnScans': WHATEVER THE INPUT: true; the input reads as it did. -/
def fnScansSpec : ChangeSpec := { name := "fnScans", fn := fun _ => fun
  | [d] => { results := [.lit (.bool true)], args := [d] }
  | _ => none }
def fnScansRow : OpenClaim := { program := "ytfkndpjbkndhcaa", sum := "b55fd37d863eeb3fe7c5beaa7204047a3e243ac3c27f19bb04a65af2f09558ed", func := "loop.example/g00503/laws.FnScans", spec := "fnScans", apart := false }
def FnScansSaid : Prop := fnScansRow.holds Try.pinned (OpenSpec.ofChange fnScansSpec)

/-- ITS FALSE NEIGHBOUR: 'it returns false'. Refute it at one input. -/
def fnScansWrong : ChangeSpec := { name := "fnScans", fn := fun _ => fun
  | [d] => { results := [.lit (.bool false)], args := [d] }
  | _ => none }
def FnScansWrongFalsely : Prop := fnScansRow.holds Try.pinned (OpenSpec.ofChange fnScansWrong)

/-- 'laws.FnBuilds': WHATEVER THE INPUT: true; the input reads as it did. -/
def fnBuildsSpec : ChangeSpec := { name := "fnBuilds", fn := fun _ => fun
  | [d] => { results := [.lit (.bool true)], args := [d] }
  | _ => none }
def fnBuildsRow : OpenClaim := { program := "ytfkndpjbkndhcaa", sum := "b55fd37d863eeb3fe7c5beaa7204047a3e243ac3c27f19bb04a65af2f09558ed", func := "loop.example/g00503/laws.FnBuilds", spec := "fnBuilds", unfollowed := true, recurses := true, apart := false }
def FnBuildsSaid : Prop := fnBuildsRow.holds Try.pinned (OpenSpec.ofChange fnBuildsSpec)

/-- ITS FALSE NEIGHBOUR: 'it returns false'. Refute it at one input. -/
def fnBuildsWrong : ChangeSpec := { name := "fnBuilds", fn := fun _ => fun
  | [d] => { results := [.lit (.bool false)], args := [d] }
  | _ => none }
def FnBuildsWrongFalsely : Prop := fnBuildsRow.holds Try.pinned (OpenSpec.ofChange fnBuildsWrong)

/-- 'laws.FnBuildsBent': WHATEVER THE INPUT: true; the input reads as it did. -/
def fnBuildsBentSpec : ChangeSpec := { name := "fnBuildsBent", fn := fun _ => fun
  | [d] => { results := [.lit (.bool true)], args := [d] }
  | _ => none }
def fnBuildsBentRow : OpenClaim := { program := "ytfkndpjbkndhcaa", sum := "b55fd37d863eeb3fe7c5beaa7204047a3e243ac3c27f19bb04a65af2f09558ed", func := "loop.example/g00503/laws.FnBuildsBent", spec := "fnBuildsBent", unfollowed := true, recurses := true, apart := false }
def FnBuildsBentSaid : Prop := fnBuildsBentRow.holds Try.pinned (OpenSpec.ofChange fnBuildsBentSpec)

/-- ITS FALSE NEIGHBOUR: 'it returns false'. Refute it at one input. -/
def fnBuildsBentWrong : ChangeSpec := { name := "fnBuildsBent", fn := fun _ => fun
  | [d] => { results := [.lit (.bool false)], args := [d] }
  | _ => none }
def FnBuildsBentWrongFalsely : Prop := fnBuildsBentRow.holds Try.pinned (OpenSpec.ofChange fnBuildsBentWrong)

/- THE SECOND FORM. 'bulk': how many values and letters a reading holds, each counted each time it is reached (what is shared counts as often as it is met; a slice's spare places count too). A statement '..UptoSaid' is the law's where the arguments, and the package variables that the reading takes, are together of bulk at most 1048576: NARROWER than '..Said'. Prove '..Said' where nothing that the law and all that it calls make is longer than what came in: it says more and counts as full. Else prove '..UptoSaid'. A law counts once. -/
mutual
def uptoBulk {H : Type} : DataW H → Nat
  | .lit (.string bytes) => bytes.length + 1
  | .lit _ => 1
  | .nil => 1
  | .ptr d => uptoBulk d + 1
  | .slice elems spare => uptoBulkAll elems + uptoBulkAll spare + 1
  | .agg parts => uptoBulkAll parts + 1
  | .iface _ d => uptoBulk d + 1
  | .map entries => uptoBulkEntries entries + 1
  | .held _ => 1
def uptoBulkAll {H : Type} : List (DataW H) → Nat
  | [] => 0
  | d :: r => uptoBulk d + uptoBulkAll r
def uptoBulkEntries {H : Type} : List (Lit × DataW H) → Nat
  | [] => 0
  | x :: r => uptoBulkEntry x + uptoBulkEntries r
def uptoBulkEntry {H : Type} : Lit × DataW H → Nat
  | (.string bytes, d) => bytes.length + uptoBulk d + 1
  | (_, d) => uptoBulk d + 1
 end
def uptoSmall : (H : Type) → List (DataW H) → Bool := fun _ ds => decide (uptoBulkAll ds ≤ 1048576)
def OpenSpec.upto (s : _root_.Go.ChangeSpec) : _root_.Go.OpenSpec := { _root_.Go.OpenSpec.ofChange s with cond := some uptoSmall }

/-- 'laws.FnAnyOrder', WHERE WHAT IT READS IS OF BULK AT MOST 1048576: true; the input reads as it did. -/
def fnAnyOrderUptoRow : OpenClaim := { program := "ytfkndpjbkndhcaa", sum := "b55fd37d863eeb3fe7c5beaa7204047a3e243ac3c27f19bb04a65af2f09558ed", func := "loop.example/g00503/laws.FnAnyOrder", spec := "fnAnyOrder", unfollowed := true, recurses := true, apart := false, narrowed := true }
def FnAnyOrderUptoSaid : Prop := fnAnyOrderUptoRow.holds Try.pinned (OpenSpec.upto fnAnyOrderSpec)

/-- 'laws.FnShift', WHERE WHAT IT READS IS OF BULK AT MOST 1048576: true; the input reads as it did. -/
def fnShiftUptoRow : OpenClaim := { program := "ytfkndpjbkndhcaa", sum := "b55fd37d863eeb3fe7c5beaa7204047a3e243ac3c27f19bb04a65af2f09558ed", func := "loop.example/g00503/laws.FnShift", spec := "fnShift", apart := false, narrowed := true }
def FnShiftUptoSaid : Prop := fnShiftUptoRow.holds Try.pinned (OpenSpec.upto fnShiftSpec)

/-- 'laws.FnScans', WHERE WHAT IT READS IS OF BULK AT MOST 1048576: true; the input reads as it did. -/
def fnScansUptoRow : OpenClaim := { program := "ytfkndpjbkndhcaa", sum := "b55fd37d863eeb3fe7c5beaa7204047a3e243ac3c27f19bb04a65af2f09558ed", func := "loop.example/g00503/laws.FnScans", spec := "fnScans", apart := false, narrowed := true }
def FnScansUptoSaid : Prop := fnScansUptoRow.holds Try.pinned (OpenSpec.upto fnScansSpec)

/-- 'laws.FnBuilds', WHERE WHAT IT READS IS OF BULK AT MOST 1048576: true; the input reads as it did. -/
def fnBuildsUptoRow : OpenClaim := { program := "ytfkndpjbkndhcaa", sum := "b55fd37d863eeb3fe7c5beaa7204047a3e243ac3c27f19bb04a65af2f09558ed", func := "loop.example/g00503/laws.FnBuilds", spec := "fnBuilds", unfollowed := true, recurses := true, apart := false, narrowed := true }
def FnBuildsUptoSaid : Prop := fnBuildsUptoRow.holds Try.pinned (OpenSpec.upto fnBuildsSpec)

/-- 'laws.FnBuildsBent', WHERE WHAT IT READS IS OF BULK AT MOST 1048576: true; the input reads as it did. -/
def fnBuildsBentUptoRow : OpenClaim := { program := "ytfkndpjbkndhcaa", sum := "b55fd37d863eeb3fe7c5beaa7204047a3e243ac3c27f19bb04a65af2f09558ed", func := "loop.example/g00503/laws.FnBuildsBent", spec := "fnBuildsBent", unfollowed := true, recurses := true, apart := false, narrowed := true }
def FnBuildsBentUptoSaid : Prop := fnBuildsBentUptoRow.holds Try.pinned (OpenSpec.upto fnBuildsBentSpec)

end Rows
end Go.Proofs.Ytfkndpjbkndhcaa
