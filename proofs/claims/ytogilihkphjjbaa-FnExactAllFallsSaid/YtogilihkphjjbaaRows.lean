/-
  No cell of these rows narrows 'for every input' (looked for: loops, veiled, ifaces, maps, wideKeys, modest, calm, conditions, laid).
  DERIVED. THE GIVEN ROWS OF THIS SEAT. 12 by the template 'for every input the law returns true; each argument reads behind the call as it read before'; 0 by the template 'total and deterministic' (their statements: YtogilihkphjjbaaTotals.lean).
  GIVEN WITH THE SEED: the statements are not yours to turn. If you find one false, say at which input.
  Laid BY PROGRAM, IN A SANDBOX (cutbox-rows.mjs): the forced cells as the released guide's own fill.sh prints them over the translation ecfb8a70093a7c72… (all of the seat's roots in one cut). By AI agents, Wed Nov 11 2026. No macro, syntax, notation, axiom, sorry.
-/
import Derived.Test.YtogilihkphjjbaaChecked
import GoSem.Claim
import GoSem.ClaimJoined
import GoSem.ClaimMapViews
import Derived.JoinedTies
import Derived.KernelRfl
namespace Go.Proofs.Ytogilihkphjjbaa
/- THE CELL 'sum', in the pinned program and in every row, IS THE sha256 OF THE DUMP (.gsa) THAT YtogilihkphjjbaaProg.lean LOADS. Nothing in Lean hashes anything: it is a label: what it is worth is what the hold of that sum in a sandbox is worth. -/
noncomputable def Try.pinned : Pinned := { name := "ytogilihkphjjbaa", sum := "ecfb8a70093a7c7271a250545e751e416da597c5b6bc44b57b80ecb419f4d548", checked := Try.checked }
namespace Rows
def none {H : Type} : Left H := { results := [], args := [] }

/-- 'laws.FnExactSpare': WHATEVER THE INPUT: true; the input reads as it did. -/
def fnExactSpareSpec : ChangeSpec := { name := "fnExactSpare", fn := fun _ => fun
  | [d] => { results := [.lit (.bool true)], args := [d] }
  | _ => none }
def fnExactSpareRow : OpenClaim := { program := "ytogilihkphjjbaa", sum := "ecfb8a70093a7c7271a250545e751e416da597c5b6bc44b57b80ecb419f4d548", func := "loop.example/g00503/laws.FnExactSpare", spec := "fnExactSpare", apart := false }
def FnExactSpareSaid : Prop := fnExactSpareRow.holds Try.pinned (OpenSpec.ofChange fnExactSpareSpec)

/-- ITS FALSE NEIGHBOUR: 'it returns false'. Refute it at one input. -/
def fnExactSpareWrong : ChangeSpec := { name := "fnExactSpare", fn := fun _ => fun
  | [d] => { results := [.lit (.bool false)], args := [d] }
  | _ => none }
def FnExactSpareWrongFalsely : Prop := fnExactSpareRow.holds Try.pinned (OpenSpec.ofChange fnExactSpareWrong)

/-- 'laws.FnExactDiskNew': WHATEVER THE INPUT: true; the input reads as it did. -/
def fnExactDiskNewSpec : ChangeSpec := { name := "fnExactDiskNew", fn := fun _ => fun
  | [d1, d2] => { results := [.lit (.bool true)], args := [d1, d2] }
  | _ => none }
def fnExactDiskNewRow : OpenClaim := { program := "ytogilihkphjjbaa", sum := "ecfb8a70093a7c7271a250545e751e416da597c5b6bc44b57b80ecb419f4d548", func := "loop.example/g00503/laws.FnExactDiskNew", spec := "fnExactDiskNew", apart := false }
def FnExactDiskNewSaid : Prop := fnExactDiskNewRow.holds Try.pinned (OpenSpec.ofChange fnExactDiskNewSpec)

/-- ITS FALSE NEIGHBOUR: 'it returns false'. Refute it at one input. -/
def fnExactDiskNewWrong : ChangeSpec := { name := "fnExactDiskNew", fn := fun _ => fun
  | [d1, d2] => { results := [.lit (.bool false)], args := [d1, d2] }
  | _ => none }
def FnExactDiskNewWrongFalsely : Prop := fnExactDiskNewRow.holds Try.pinned (OpenSpec.ofChange fnExactDiskNewWrong)

/-- 'laws.FnExactDiskOk': WHATEVER THE INPUT: true; the input reads as it did. -/
def fnExactDiskOkSpec : ChangeSpec := { name := "fnExactDiskOk", fn := fun _ => fun
  | [d] => { results := [.lit (.bool true)], args := [d] }
  | _ => none }
def fnExactDiskOkRow : OpenClaim := { program := "ytogilihkphjjbaa", sum := "ecfb8a70093a7c7271a250545e751e416da597c5b6bc44b57b80ecb419f4d548", func := "loop.example/g00503/laws.FnExactDiskOk", spec := "fnExactDiskOk", unfollowed := true, recurses := true, apart := false }
def FnExactDiskOkSaid : Prop := fnExactDiskOkRow.holds Try.pinned (OpenSpec.ofChange fnExactDiskOkSpec)

/-- ITS FALSE NEIGHBOUR: 'it returns false'. Refute it at one input. -/
def fnExactDiskOkWrong : ChangeSpec := { name := "fnExactDiskOk", fn := fun _ => fun
  | [d] => { results := [.lit (.bool false)], args := [d] }
  | _ => none }
def FnExactDiskOkWrongFalsely : Prop := fnExactDiskOkRow.holds Try.pinned (OpenSpec.ofChange fnExactDiskOkWrong)

/-- 'laws.FnExactHolds': WHATEVER THE INPUT: true; the input reads as it did. -/
def fnExactHoldsSpec : ChangeSpec := { name := "fnExactHolds", fn := fun _ => fun
  | [d1, d2, d3] => { results := [.lit (.bool true)], args := [d1, d2, d3] }
  | _ => none }
def fnExactHoldsRow : OpenClaim := { program := "ytogilihkphjjbaa", sum := "ecfb8a70093a7c7271a250545e751e416da597c5b6bc44b57b80ecb419f4d548", func := "loop.example/g00503/laws.FnExactHolds", spec := "fnExactHolds", unfollowed := true, recurses := true, apart := false }
def FnExactHoldsSaid : Prop := fnExactHoldsRow.holds Try.pinned (OpenSpec.ofChange fnExactHoldsSpec)

/-- ITS FALSE NEIGHBOUR: 'it returns false'. Refute it at one input. -/
def fnExactHoldsWrong : ChangeSpec := { name := "fnExactHolds", fn := fun _ => fun
  | [d1, d2, d3] => { results := [.lit (.bool false)], args := [d1, d2, d3] }
  | _ => none }
def FnExactHoldsWrongFalsely : Prop := fnExactHoldsRow.holds Try.pinned (OpenSpec.ofChange fnExactHoldsWrong)

/-- 'laws.FnExactHoldsAny': WHATEVER THE INPUT: true; the input reads as it did. -/
def fnExactHoldsAnySpec : ChangeSpec := { name := "fnExactHoldsAny", fn := fun _ => fun
  | [d1, d2, d3, d4] => { results := [.lit (.bool true)], args := [d1, d2, d3, d4] }
  | _ => none }
def fnExactHoldsAnyRow : OpenClaim := { program := "ytogilihkphjjbaa", sum := "ecfb8a70093a7c7271a250545e751e416da597c5b6bc44b57b80ecb419f4d548", func := "loop.example/g00503/laws.FnExactHoldsAny", spec := "fnExactHoldsAny", unfollowed := true, recurses := true, apart := false }
def FnExactHoldsAnySaid : Prop := fnExactHoldsAnyRow.holds Try.pinned (OpenSpec.ofChange fnExactHoldsAnySpec)

/-- ITS FALSE NEIGHBOUR: 'it returns false'. Refute it at one input. -/
def fnExactHoldsAnyWrong : ChangeSpec := { name := "fnExactHoldsAny", fn := fun _ => fun
  | [d1, d2, d3, d4] => { results := [.lit (.bool false)], args := [d1, d2, d3, d4] }
  | _ => none }
def FnExactHoldsAnyWrongFalsely : Prop := fnExactHoldsAnyRow.holds Try.pinned (OpenSpec.ofChange fnExactHoldsAnyWrong)

/-- 'laws.FnExactRecover': WHATEVER THE INPUT: true; the input reads as it did. -/
def fnExactRecoverSpec : ChangeSpec := { name := "fnExactRecover", fn := fun _ => fun
  | [d] => { results := [.lit (.bool true)], args := [d] }
  | _ => none }
def fnExactRecoverRow : OpenClaim := { program := "ytogilihkphjjbaa", sum := "ecfb8a70093a7c7271a250545e751e416da597c5b6bc44b57b80ecb419f4d548", func := "loop.example/g00503/laws.FnExactRecover", spec := "fnExactRecover", unfollowed := true, recurses := true, apart := false }
def FnExactRecoverSaid : Prop := fnExactRecoverRow.holds Try.pinned (OpenSpec.ofChange fnExactRecoverSpec)

/-- ITS FALSE NEIGHBOUR: 'it returns false'. Refute it at one input. -/
def fnExactRecoverWrong : ChangeSpec := { name := "fnExactRecover", fn := fun _ => fun
  | [d] => { results := [.lit (.bool false)], args := [d] }
  | _ => none }
def FnExactRecoverWrongFalsely : Prop := fnExactRecoverRow.holds Try.pinned (OpenSpec.ofChange fnExactRecoverWrong)

/-- 'laws.FnExactOnePut': WHATEVER THE INPUT: true; the input reads as it did. -/
def fnExactOnePutSpec : ChangeSpec := { name := "fnExactOnePut", fn := fun _ => fun
  | [d1, d2] => { results := [.lit (.bool true)], args := [d1, d2] }
  | _ => none }
def fnExactOnePutRow : OpenClaim := { program := "ytogilihkphjjbaa", sum := "ecfb8a70093a7c7271a250545e751e416da597c5b6bc44b57b80ecb419f4d548", func := "loop.example/g00503/laws.FnExactOnePut", spec := "fnExactOnePut", apart := false }
def FnExactOnePutSaid : Prop := fnExactOnePutRow.holds Try.pinned (OpenSpec.ofChange fnExactOnePutSpec)

/-- ITS FALSE NEIGHBOUR: 'it returns false'. Refute it at one input. -/
def fnExactOnePutWrong : ChangeSpec := { name := "fnExactOnePut", fn := fun _ => fun
  | [d1, d2] => { results := [.lit (.bool false)], args := [d1, d2] }
  | _ => none }
def FnExactOnePutWrongFalsely : Prop := fnExactOnePutRow.holds Try.pinned (OpenSpec.ofChange fnExactOnePutWrong)

/-- 'laws.FnExactPutRecord': WHATEVER THE INPUT: true; the input reads as it did. -/
def fnExactPutRecordSpec : ChangeSpec := { name := "fnExactPutRecord", fn := fun _ => fun
  | [d1, d2] => { results := [.lit (.bool true)], args := [d1, d2] }
  | _ => none }
def fnExactPutRecordRow : OpenClaim := { program := "ytogilihkphjjbaa", sum := "ecfb8a70093a7c7271a250545e751e416da597c5b6bc44b57b80ecb419f4d548", func := "loop.example/g00503/laws.FnExactPutRecord", spec := "fnExactPutRecord", unfollowed := true, recurses := true, apart := false }
def FnExactPutRecordSaid : Prop := fnExactPutRecordRow.holds Try.pinned (OpenSpec.ofChange fnExactPutRecordSpec)

/-- ITS FALSE NEIGHBOUR: 'it returns false'. Refute it at one input. -/
def fnExactPutRecordWrong : ChangeSpec := { name := "fnExactPutRecord", fn := fun _ => fun
  | [d1, d2] => { results := [.lit (.bool false)], args := [d1, d2] }
  | _ => none }
def FnExactPutRecordWrongFalsely : Prop := fnExactPutRecordRow.holds Try.pinned (OpenSpec.ofChange fnExactPutRecordWrong)

/-- 'laws.FnExactPutBytes': WHATEVER THE INPUT: true; the input reads as it did. -/
def fnExactPutBytesSpec : ChangeSpec := { name := "fnExactPutBytes", fn := fun _ => fun
  | [d1, d2, d3, d4] => { results := [.lit (.bool true)], args := [d1, d2, d3, d4] }
  | _ => none }
def fnExactPutBytesRow : OpenClaim := { program := "ytogilihkphjjbaa", sum := "ecfb8a70093a7c7271a250545e751e416da597c5b6bc44b57b80ecb419f4d548", func := "loop.example/g00503/laws.FnExactPutBytes", spec := "fnExactPutBytes", unfollowed := true, recurses := true, apart := false }
def FnExactPutBytesSaid : Prop := fnExactPutBytesRow.holds Try.pinned (OpenSpec.ofChange fnExactPutBytesSpec)

/-- ITS FALSE NEIGHBOUR: 'it returns false'. Refute it at one input. -/
def fnExactPutBytesWrong : ChangeSpec := { name := "fnExactPutBytes", fn := fun _ => fun
  | [d1, d2, d3, d4] => { results := [.lit (.bool false)], args := [d1, d2, d3, d4] }
  | _ => none }
def FnExactPutBytesWrongFalsely : Prop := fnExactPutBytesRow.holds Try.pinned (OpenSpec.ofChange fnExactPutBytesWrong)

/-- 'laws.FnExactSure': WHATEVER THE INPUT: true; the input reads as it did. -/
def fnExactSureSpec : ChangeSpec := { name := "fnExactSure", fn := fun _ => fun
  | [d] => { results := [.lit (.bool true)], args := [d] }
  | _ => none }
def fnExactSureRow : OpenClaim := { program := "ytogilihkphjjbaa", sum := "ecfb8a70093a7c7271a250545e751e416da597c5b6bc44b57b80ecb419f4d548", func := "loop.example/g00503/laws.FnExactSure", spec := "fnExactSure", unfollowed := true, recurses := true, apart := false }
def FnExactSureSaid : Prop := fnExactSureRow.holds Try.pinned (OpenSpec.ofChange fnExactSureSpec)

/-- ITS FALSE NEIGHBOUR: 'it returns false'. Refute it at one input. -/
def fnExactSureWrong : ChangeSpec := { name := "fnExactSure", fn := fun _ => fun
  | [d] => { results := [.lit (.bool false)], args := [d] }
  | _ => none }
def FnExactSureWrongFalsely : Prop := fnExactSureRow.holds Try.pinned (OpenSpec.ofChange fnExactSureWrong)

/-- 'laws.FnExactFall': WHATEVER THE INPUT: true; the input reads as it did. -/
def fnExactFallSpec : ChangeSpec := { name := "fnExactFall", fn := fun _ => fun
  | [d1, d2] => { results := [.lit (.bool true)], args := [d1, d2] }
  | _ => none }
def fnExactFallRow : OpenClaim := { program := "ytogilihkphjjbaa", sum := "ecfb8a70093a7c7271a250545e751e416da597c5b6bc44b57b80ecb419f4d548", func := "loop.example/g00503/laws.FnExactFall", spec := "fnExactFall", unfollowed := true, recurses := true, apart := false }
def FnExactFallSaid : Prop := fnExactFallRow.holds Try.pinned (OpenSpec.ofChange fnExactFallSpec)

/-- ITS FALSE NEIGHBOUR: 'it returns false'. Refute it at one input. -/
def fnExactFallWrong : ChangeSpec := { name := "fnExactFall", fn := fun _ => fun
  | [d1, d2] => { results := [.lit (.bool false)], args := [d1, d2] }
  | _ => none }
def FnExactFallWrongFalsely : Prop := fnExactFallRow.holds Try.pinned (OpenSpec.ofChange fnExactFallWrong)

/-- 'laws.FnExactAllFalls': WHATEVER THE INPUT: true; the input reads as it did. -/
def fnExactAllFallsSpec : ChangeSpec := { name := "fnExactAllFalls", fn := fun _ => fun
  | [d] => { results := [.lit (.bool true)], args := [d] }
  | _ => none }
def fnExactAllFallsRow : OpenClaim := { program := "ytogilihkphjjbaa", sum := "ecfb8a70093a7c7271a250545e751e416da597c5b6bc44b57b80ecb419f4d548", func := "loop.example/g00503/laws.FnExactAllFalls", spec := "fnExactAllFalls", unfollowed := true, recurses := true, apart := false }
def FnExactAllFallsSaid : Prop := fnExactAllFallsRow.holds Try.pinned (OpenSpec.ofChange fnExactAllFallsSpec)

/-- ITS FALSE NEIGHBOUR: 'it returns false'. Refute it at one input. -/
def fnExactAllFallsWrong : ChangeSpec := { name := "fnExactAllFalls", fn := fun _ => fun
  | [d] => { results := [.lit (.bool false)], args := [d] }
  | _ => none }
def FnExactAllFallsWrongFalsely : Prop := fnExactAllFallsRow.holds Try.pinned (OpenSpec.ofChange fnExactAllFallsWrong)

/- THE SECOND FORM. 'bulk': how many values and letters a reading holds, each counted each time it is reached (what is shared counts as often as it is met; a slice's spare places count too). A statement '..UptoSaid' is the law's where the arguments, and the package variables that the reading takes, are together of bulk at most 1048576: NARROWER than '..Said'. Prove '..Said' where nothing that the law and all that it calls make is longer than what came in: it says more and counts as full. Else prove '..UptoSaid'. A law counts once. -/
mutual
def uptoBulk {H : Type} : DataW H → Nat
  | .lit (.string bytes) => bytes.length + 1
  | .lit _ => 1
  | .nil => 1
  | .ptr d => uptoBulk d + 1
  | .slice elems spare => uptoBulkAll elems + uptoBulkAll spare + 1
  | .agg parts => uptoBulkAll parts + 1
  | .iface _ d => uptoBulk d + 1
  | .map entries => uptoBulkEntries entries + 1
  | .held _ => 1
def uptoBulkAll {H : Type} : List (DataW H) → Nat
  | [] => 0
  | d :: r => uptoBulk d + uptoBulkAll r
def uptoBulkEntries {H : Type} : List (Lit × DataW H) → Nat
  | [] => 0
  | x :: r => uptoBulkEntry x + uptoBulkEntries r
def uptoBulkEntry {H : Type} : Lit × DataW H → Nat
  | (.string bytes, d) => bytes.length + uptoBulk d + 1
  | (_, d) => uptoBulk d + 1
 end
def uptoSmall : (H : Type) → List (DataW H) → Bool := fun _ ds => decide (uptoBulkAll ds ≤ 1048576)
def OpenSpec.upto (s : _root_.Go.ChangeSpec) : _root_.Go.OpenSpec := { _root_.Go.OpenSpec.ofChange s with cond := some uptoSmall }

/-- 'laws.FnExactSpare', WHERE WHAT IT READS IS OF BULK AT MOST 1048576: true; the input reads as it did. -/
def fnExactSpareUptoRow : OpenClaim := { program := "ytogilihkphjjbaa", sum := "ecfb8a70093a7c7271a250545e751e416da597c5b6bc44b57b80ecb419f4d548", func := "loop.example/g00503/laws.FnExactSpare", spec := "fnExactSpare", apart := false, narrowed := true }
def FnExactSpareUptoSaid : Prop := fnExactSpareUptoRow.holds Try.pinned (OpenSpec.upto fnExactSpareSpec)

/-- 'laws.FnExactDiskNew', WHERE WHAT IT READS IS OF BULK AT MOST 1048576: true; the input reads as it did. -/
def fnExactDiskNewUptoRow : OpenClaim := { program := "ytogilihkphjjbaa", sum := "ecfb8a70093a7c7271a250545e751e416da597c5b6bc44b57b80ecb419f4d548", func := "loop.example/g00503/laws.FnExactDiskNew", spec := "fnExactDiskNew", apart := false, narrowed := true }
def FnExactDiskNewUptoSaid : Prop := fnExactDiskNewUptoRow.holds Try.pinned (OpenSpec.upto fnExactDiskNewSpec)

/-- 'laws.FnExactDiskOk', WHERE WHAT IT READS IS OF BULK AT MOST 1048576: true; the input reads as it did. -/
def fnExactDiskOkUptoRow : OpenClaim := { program := "ytogilihkphjjbaa", sum := "ecfb8a70093a7c7271a250545e751e416da597c5b6bc44b57b80ecb419f4d548", func := "loop.example/g00503/laws.FnExactDiskOk", spec := "fnExactDiskOk", unfollowed := true, recurses := true, apart := false, narrowed := true }
def FnExactDiskOkUptoSaid : Prop := fnExactDiskOkUptoRow.holds Try.pinned (OpenSpec.upto fnExactDiskOkSpec)

/-- 'laws.FnExactHolds', WHERE WHAT IT READS IS OF BULK AT MOST 1048576: true; the input reads as it did. -/
def fnExactHoldsUptoRow : OpenClaim := { program := "ytogilihkphjjbaa", sum := "ecfb8a70093a7c7271a250545e751e416da597c5b6bc44b57b80ecb419f4d548", func := "loop.example/g00503/laws.FnExactHolds", spec := "fnExactHolds", unfollowed := true, recurses := true, apart := false, narrowed := true }
def FnExactHoldsUptoSaid : Prop := fnExactHoldsUptoRow.holds Try.pinned (OpenSpec.upto fnExactHoldsSpec)

/-- 'laws.FnExactHoldsAny', WHERE WHAT IT READS IS OF BULK AT MOST 1048576: true; the input reads as it did. -/
def fnExactHoldsAnyUptoRow : OpenClaim := { program := "ytogilihkphjjbaa", sum := "ecfb8a70093a7c7271a250545e751e416da597c5b6bc44b57b80ecb419f4d548", func := "loop.example/g00503/laws.FnExactHoldsAny", spec := "fnExactHoldsAny", unfollowed := true, recurses := true, apart := false, narrowed := true }
def FnExactHoldsAnyUptoSaid : Prop := fnExactHoldsAnyUptoRow.holds Try.pinned (OpenSpec.upto fnExactHoldsAnySpec)

/-- 'laws.FnExactRecover', WHERE WHAT IT READS IS OF BULK AT MOST 1048576: true; the input reads as it did. -/
def fnExactRecoverUptoRow : OpenClaim := { program := "ytogilihkphjjbaa", sum := "ecfb8a70093a7c7271a250545e751e416da597c5b6bc44b57b80ecb419f4d548", func := "loop.example/g00503/laws.FnExactRecover", spec := "fnExactRecover", unfollowed := true, recurses := true, apart := false, narrowed := true }
def FnExactRecoverUptoSaid : Prop := fnExactRecoverUptoRow.holds Try.pinned (OpenSpec.upto fnExactRecoverSpec)

/-- 'laws.FnExactOnePut', WHERE WHAT IT READS IS OF BULK AT MOST 1048576: true; the input reads as it did. -/
def fnExactOnePutUptoRow : OpenClaim := { program := "ytogilihkphjjbaa", sum := "ecfb8a70093a7c7271a250545e751e416da597c5b6bc44b57b80ecb419f4d548", func := "loop.example/g00503/laws.FnExactOnePut", spec := "fnExactOnePut", apart := false, narrowed := true }
def FnExactOnePutUptoSaid : Prop := fnExactOnePutUptoRow.holds Try.pinned (OpenSpec.upto fnExactOnePutSpec)

/-- 'laws.FnExactPutRecord', WHERE WHAT IT READS IS OF BULK AT MOST 1048576: true; the input reads as it did. -/
def fnExactPutRecordUptoRow : OpenClaim := { program := "ytogilihkphjjbaa", sum := "ecfb8a70093a7c7271a250545e751e416da597c5b6bc44b57b80ecb419f4d548", func := "loop.example/g00503/laws.FnExactPutRecord", spec := "fnExactPutRecord", unfollowed := true, recurses := true, apart := false, narrowed := true }
def FnExactPutRecordUptoSaid : Prop := fnExactPutRecordUptoRow.holds Try.pinned (OpenSpec.upto fnExactPutRecordSpec)

/-- 'laws.FnExactPutBytes', WHERE WHAT IT READS IS OF BULK AT MOST 1048576: true; the input reads as it did. -/
def fnExactPutBytesUptoRow : OpenClaim := { program := "ytogilihkphjjbaa", sum := "ecfb8a70093a7c7271a250545e751e416da597c5b6bc44b57b80ecb419f4d548", func := "loop.example/g00503/laws.FnExactPutBytes", spec := "fnExactPutBytes", unfollowed := true, recurses := true, apart := false, narrowed := true }
def FnExactPutBytesUptoSaid : Prop := fnExactPutBytesUptoRow.holds Try.pinned (OpenSpec.upto fnExactPutBytesSpec)

/-- 'laws.FnExactSure', WHERE WHAT IT READS IS OF BULK AT MOST 1048576: true; the input reads as it did. -/
def fnExactSureUptoRow : OpenClaim := { program := "ytogilihkphjjbaa", sum := "ecfb8a70093a7c7271a250545e751e416da597c5b6bc44b57b80ecb419f4d548", func := "loop.example/g00503/laws.FnExactSure", spec := "fnExactSure", unfollowed := true, recurses := true, apart := false, narrowed := true }
def FnExactSureUptoSaid : Prop := fnExactSureUptoRow.holds Try.pinned (OpenSpec.upto fnExactSureSpec)

/-- 'laws.FnExactFall', WHERE WHAT IT READS IS OF BULK AT MOST 1048576: true; the input reads as it did. -/
def fnExactFallUptoRow : OpenClaim := { program := "ytogilihkphjjbaa", sum := "ecfb8a70093a7c7271a250545e751e416da597c5b6bc44b57b80ecb419f4d548", func := "loop.example/g00503/laws.FnExactFall", spec := "fnExactFall", unfollowed := true, recurses := true, apart := false, narrowed := true }
def FnExactFallUptoSaid : Prop := fnExactFallUptoRow.holds Try.pinned (OpenSpec.upto fnExactFallSpec)

/-- 'laws.FnExactAllFalls', WHERE WHAT IT READS IS OF BULK AT MOST 1048576: true; the input reads as it did. -/
def fnExactAllFallsUptoRow : OpenClaim := { program := "ytogilihkphjjbaa", sum := "ecfb8a70093a7c7271a250545e751e416da597c5b6bc44b57b80ecb419f4d548", func := "loop.example/g00503/laws.FnExactAllFalls", spec := "fnExactAllFalls", unfollowed := true, recurses := true, apart := false, narrowed := true }
def FnExactAllFallsUptoSaid : Prop := fnExactAllFallsUptoRow.holds Try.pinned (OpenSpec.upto fnExactAllFallsSpec)

end Rows
end Go.Proofs.Ytogilihkphjjbaa
