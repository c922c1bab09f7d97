/-
  No cell of these rows narrows 'for every input' (looked for: loops, veiled, ifaces, maps, wideKeys, modest, calm, conditions, laid).
  DERIVED. THE GIVEN ROWS OF THIS SEAT. 8 by the template 'for every input the law returns true; each argument reads behind the call as it read before'; 0 by the template 'total and deterministic' (their statements: YtkfnhbpjphjckaaTotals.lean).
  GIVEN WITH THE SEED: the statements are not yours to turn. If you find one false, say at which input.
  Laid BY PROGRAM, IN A SANDBOX (cutbox-rows.mjs): the forced cells as the released guide's own fill.sh prints them over the translation f69ae4043ccd6e64… (all of the seat's roots in one cut). By AI agents, Wed Nov 11 2026. No macro, syntax, notation, axiom, sorry.
-/
import Derived.Test.YtkfnhbpjphjckaaChecked
import GoSem.Claim
import GoSem.ClaimJoined
import GoSem.ClaimMapViews
import Derived.JoinedTies
import Derived.KernelRfl
namespace Go.Proofs.Ytkfnhbpjphjckaa
/- THE CELL 'sum', in the pinned program and in every row, IS THE sha256 OF THE DUMP (.gsa) THAT YtkfnhbpjphjckaaProg.lean LOADS. Nothing in Lean hashes anything: it is a label: what it is worth is what the hold of that sum in a sandbox is worth. -/
noncomputable def Try.pinned : Pinned := { name := "ytkfnhbpjphjckaa", sum := "f69ae4043ccd6e6494d15aeabc816f59ab5085264318316119e831257ebfbfa7", checked := Try.checked }
namespace Rows
def none {H : Type} : Left H := { results := [], args := [] }

/-- 'laws.FnExactAgeAll': WHATEVER THE INPUT: true; the input reads as it did. -/
def fnExactAgeAllSpec : ChangeSpec := { name := "fnExactAgeAll", fn := fun _ => fun
  | [d1, d2] => { results := [.lit (.bool true)], args := [d1, d2] }
  | _ => none }
def fnExactAgeAllRow : OpenClaim := { program := "ytkfnhbpjphjckaa", sum := "f69ae4043ccd6e6494d15aeabc816f59ab5085264318316119e831257ebfbfa7", func := "loop.example/g00503/laws.FnExactAgeAll", spec := "fnExactAgeAll", apart := false }
def FnExactAgeAllSaid : Prop := fnExactAgeAllRow.holds Try.pinned (OpenSpec.ofChange fnExactAgeAllSpec)

/-- ITS FALSE NEIGHBOUR: 'it returns false'. Refute it at one input. -/
def fnExactAgeAllWrong : ChangeSpec := { name := "fnExactAgeAll", fn := fun _ => fun
  | [d1, d2] => { results := [.lit (.bool false)], args := [d1, d2] }
  | _ => none }
def FnExactAgeAllWrongFalsely : Prop := fnExactAgeAllRow.holds Try.pinned (OpenSpec.ofChange fnExactAgeAllWrong)

/-- 'laws.FnExactNextBoss': WHATEVER THE INPUT: true; the input reads as it did. -/
def fnExactNextBossSpec : ChangeSpec := { name := "fnExactNextBoss", fn := fun _ => fun
  | [d1, d2, d3] => { results := [.lit (.bool true)], args := [d1, d2, d3] }
  | _ => none }
def fnExactNextBossRow : OpenClaim := { program := "ytkfnhbpjphjckaa", sum := "f69ae4043ccd6e6494d15aeabc816f59ab5085264318316119e831257ebfbfa7", func := "loop.example/g00503/laws.FnExactNextBoss", spec := "fnExactNextBoss", apart := false }
def FnExactNextBossSaid : Prop := fnExactNextBossRow.holds Try.pinned (OpenSpec.ofChange fnExactNextBossSpec)

/-- ITS FALSE NEIGHBOUR: 'it returns false'. Refute it at one input. -/
def fnExactNextBossWrong : ChangeSpec := { name := "fnExactNextBoss", fn := fun _ => fun
  | [d1, d2, d3] => { results := [.lit (.bool false)], args := [d1, d2, d3] }
  | _ => none }
def FnExactNextBossWrongFalsely : Prop := fnExactNextBossRow.holds Try.pinned (OpenSpec.ofChange fnExactNextBossWrong)

/-- 'laws.FnExactBelowOf': WHATEVER THE INPUT: true; the input reads as it did. -/
def fnExactBelowOfSpec : ChangeSpec := { name := "fnExactBelowOf", fn := fun _ => fun
  | [d1, d2] => { results := [.lit (.bool true)], args := [d1, d2] }
  | _ => none }
def fnExactBelowOfRow : OpenClaim := { program := "ytkfnhbpjphjckaa", sum := "f69ae4043ccd6e6494d15aeabc816f59ab5085264318316119e831257ebfbfa7", func := "loop.example/g00503/laws.FnExactBelowOf", spec := "fnExactBelowOf", unfollowed := true, recurses := true, apart := false }
def FnExactBelowOfSaid : Prop := fnExactBelowOfRow.holds Try.pinned (OpenSpec.ofChange fnExactBelowOfSpec)

/-- ITS FALSE NEIGHBOUR: 'it returns false'. Refute it at one input. -/
def fnExactBelowOfWrong : ChangeSpec := { name := "fnExactBelowOf", fn := fun _ => fun
  | [d1, d2] => { results := [.lit (.bool false)], args := [d1, d2] }
  | _ => none }
def FnExactBelowOfWrongFalsely : Prop := fnExactBelowOfRow.holds Try.pinned (OpenSpec.ofChange fnExactBelowOfWrong)

/-- 'laws.FnBosses': WHATEVER THE INPUT: true; the input reads as it did. -/
def fnBossesSpec : ChangeSpec := { name := "fnBosses", fn := fun _ => fun
  | [d] => { results := [.lit (.bool true)], args := [d] }
  | _ => none }
def fnBossesRow : OpenClaim := { program := "ytkfnhbpjphjckaa", sum := "f69ae4043ccd6e6494d15aeabc816f59ab5085264318316119e831257ebfbfa7", func := "loop.example/g00503/laws.FnBosses", spec := "fnBosses", apart := false }
def FnBossesSaid : Prop := fnBossesRow.holds Try.pinned (OpenSpec.ofChange fnBossesSpec)

/-- ITS FALSE NEIGHBOUR: 'it returns false'. Refute it at one input. -/
def fnBossesWrong : ChangeSpec := { name := "fnBosses", fn := fun _ => fun
  | [d] => { results := [.lit (.bool false)], args := [d] }
  | _ => none }
def FnBossesWrongFalsely : Prop := fnBossesRow.holds Try.pinned (OpenSpec.ofChange fnBossesWrong)

/-- 'laws.FnExactWantMsg': WHATEVER THE INPUT: true; the input reads as it did. -/
def fnExactWantMsgSpec : ChangeSpec := { name := "fnExactWantMsg", fn := fun _ => fun
  | [d1, d2, d3] => { results := [.lit (.bool true)], args := [d1, d2, d3] }
  | _ => none }
def fnExactWantMsgRow : OpenClaim := { program := "ytkfnhbpjphjckaa", sum := "f69ae4043ccd6e6494d15aeabc816f59ab5085264318316119e831257ebfbfa7", func := "loop.example/g00503/laws.FnExactWantMsg", spec := "fnExactWantMsg", apart := false }
def FnExactWantMsgSaid : Prop := fnExactWantMsgRow.holds Try.pinned (OpenSpec.ofChange fnExactWantMsgSpec)

/-- ITS FALSE NEIGHBOUR: 'it returns false'. Refute it at one input. -/
def fnExactWantMsgWrong : ChangeSpec := { name := "fnExactWantMsg", fn := fun _ => fun
  | [d1, d2, d3] => { results := [.lit (.bool false)], args := [d1, d2, d3] }
  | _ => none }
def FnExactWantMsgWrongFalsely : Prop := fnExactWantMsgRow.holds Try.pinned (OpenSpec.ofChange fnExactWantMsgWrong)

/-- 'laws.FnExactPartMsg': WHATEVER THE INPUT: true; the input reads as it did. -/
def fnExactPartMsgSpec : ChangeSpec := { name := "fnExactPartMsg", fn := fun _ => fun
  | [d1, d2, d3] => { results := [.lit (.bool true)], args := [d1, d2, d3] }
  | _ => none }
def fnExactPartMsgRow : OpenClaim := { program := "ytkfnhbpjphjckaa", sum := "f69ae4043ccd6e6494d15aeabc816f59ab5085264318316119e831257ebfbfa7", func := "loop.example/g00503/laws.FnExactPartMsg", spec := "fnExactPartMsg", apart := false }
def FnExactPartMsgSaid : Prop := fnExactPartMsgRow.holds Try.pinned (OpenSpec.ofChange fnExactPartMsgSpec)

/-- ITS FALSE NEIGHBOUR: 'it returns false'. Refute it at one input. -/
def fnExactPartMsgWrong : ChangeSpec := { name := "fnExactPartMsg", fn := fun _ => fun
  | [d1, d2, d3] => { results := [.lit (.bool false)], args := [d1, d2, d3] }
  | _ => none }
def FnExactPartMsgWrongFalsely : Prop := fnExactPartMsgRow.holds Try.pinned (OpenSpec.ofChange fnExactPartMsgWrong)

/-- 'laws.FnExactSameMsg': WHATEVER THE INPUT: true; the input reads as it did. -/
def fnExactSameMsgSpec : ChangeSpec := { name := "fnExactSameMsg", fn := fun _ => fun
  | [d1, d2] => { results := [.lit (.bool true)], args := [d1, d2] }
  | _ => none }
def fnExactSameMsgRow : OpenClaim := { program := "ytkfnhbpjphjckaa", sum := "f69ae4043ccd6e6494d15aeabc816f59ab5085264318316119e831257ebfbfa7", func := "loop.example/g00503/laws.FnExactSameMsg", spec := "fnExactSameMsg", apart := false }
def FnExactSameMsgSaid : Prop := fnExactSameMsgRow.holds Try.pinned (OpenSpec.ofChange fnExactSameMsgSpec)

/-- ITS FALSE NEIGHBOUR: 'it returns false'. Refute it at one input. -/
def fnExactSameMsgWrong : ChangeSpec := { name := "fnExactSameMsg", fn := fun _ => fun
  | [d1, d2] => { results := [.lit (.bool false)], args := [d1, d2] }
  | _ => none }
def FnExactSameMsgWrongFalsely : Prop := fnExactSameMsgRow.holds Try.pinned (OpenSpec.ofChange fnExactSameMsgWrong)

/-- 'laws.FnTrees': WHATEVER THE INPUT: true; the input reads as it did. -/
def fnTreesSpec : ChangeSpec := { name := "fnTrees", fn := fun _ => fun
  | [d] => { results := [.lit (.bool true)], args := [d] }
  | _ => none }
def fnTreesRow : OpenClaim := { program := "ytkfnhbpjphjckaa", sum := "f69ae4043ccd6e6494d15aeabc816f59ab5085264318316119e831257ebfbfa7", func := "loop.example/g00503/laws.FnTrees", spec := "fnTrees", unfollowed := true, recurses := true, apart := false }
def FnTreesSaid : Prop := fnTreesRow.holds Try.pinned (OpenSpec.ofChange fnTreesSpec)

/-- ITS FALSE NEIGHBOUR: 'it returns false'. Refute it at one input. -/
def fnTreesWrong : ChangeSpec := { name := "fnTrees", fn := fun _ => fun
  | [d] => { results := [.lit (.bool false)], args := [d] }
  | _ => none }
def FnTreesWrongFalsely : Prop := fnTreesRow.holds Try.pinned (OpenSpec.ofChange fnTreesWrong)

/- THE SECOND FORM. 'bulk': how many values and letters a reading holds, each counted each time it is reached (what is shared counts as often as it is met; a slice's spare places count too). A statement '..UptoSaid' is the law's where the arguments, and the package variables that the reading takes, are together of bulk at most 1048576: NARROWER than '..Said'. Prove '..Said' where nothing that the law and all that it calls make is longer than what came in: it says more and counts as full. Else prove '..UptoSaid'. A law counts once. -/
mutual
def uptoBulk {H : Type} : DataW H → Nat
  | .lit (.string bytes) => bytes.length + 1
  | .lit _ => 1
  | .nil => 1
  | .ptr d => uptoBulk d + 1
  | .slice elems spare => uptoBulkAll elems + uptoBulkAll spare + 1
  | .agg parts => uptoBulkAll parts + 1
  | .iface _ d => uptoBulk d + 1
  | .map entries => uptoBulkEntries entries + 1
  | .held _ => 1
def uptoBulkAll {H : Type} : List (DataW H) → Nat
  | [] => 0
  | d :: r => uptoBulk d + uptoBulkAll r
def uptoBulkEntries {H : Type} : List (Lit × DataW H) → Nat
  | [] => 0
  | x :: r => uptoBulkEntry x + uptoBulkEntries r
def uptoBulkEntry {H : Type} : Lit × DataW H → Nat
  | (.string bytes, d) => bytes.length + uptoBulk d + 1
  | (_, d) => uptoBulk d + 1
 end
def uptoSmall : (H : Type) → List (DataW H) → Bool := fun _ ds => decide (uptoBulkAll ds ≤ 1048576)
def OpenSpec.upto (s : _root_.Go.ChangeSpec) : _root_.Go.OpenSpec := { _root_.Go.OpenSpec.ofChange s with cond := some uptoSmall }

/-- 'laws.FnExactAgeAll', WHERE WHAT IT READS IS OF BULK AT MOST 1048576: true; the input reads as it did. -/
def fnExactAgeAllUptoRow : OpenClaim := { program := "ytkfnhbpjphjckaa", sum := "f69ae4043ccd6e6494d15aeabc816f59ab5085264318316119e831257ebfbfa7", func := "loop.example/g00503/laws.FnExactAgeAll", spec := "fnExactAgeAll", apart := false, narrowed := true }
def FnExactAgeAllUptoSaid : Prop := fnExactAgeAllUptoRow.holds Try.pinned (OpenSpec.upto fnExactAgeAllSpec)

/-- 'laws.FnExactNextBoss', WHERE WHAT IT READS IS OF BULK AT MOST 1048576: true; the input reads as it did. -/
def fnExactNextBossUptoRow : OpenClaim := { program := "ytkfnhbpjphjckaa", sum := "f69ae4043ccd6e6494d15aeabc816f59ab5085264318316119e831257ebfbfa7", func := "loop.example/g00503/laws.FnExactNextBoss", spec := "fnExactNextBoss", apart := false, narrowed := true }
def FnExactNextBossUptoSaid : Prop := fnExactNextBossUptoRow.holds Try.pinned (OpenSpec.upto fnExactNextBossSpec)

/-- 'laws.FnExactBelowOf', WHERE WHAT IT READS IS OF BULK AT MOST 1048576: true; the input reads as it did. -/
def fnExactBelowOfUptoRow : OpenClaim := { program := "ytkfnhbpjphjckaa", sum := "f69ae4043ccd6e6494d15aeabc816f59ab5085264318316119e831257ebfbfa7", func := "loop.example/g00503/laws.FnExactBelowOf", spec := "fnExactBelowOf", unfollowed := true, recurses := true, apart := false, narrowed := true }
def FnExactBelowOfUptoSaid : Prop := fnExactBelowOfUptoRow.holds Try.pinned (OpenSpec.upto fnExactBelowOfSpec)

/-- 'laws.FnBosses', WHERE WHAT IT READS IS OF BULK AT MOST 1048576: true; the input reads as it did. -/
def fnBossesUptoRow : OpenClaim := { program := "ytkfnhbpjphjckaa", sum := "f69ae4043ccd6e6494d15aeabc816f59ab5085264318316119e831257ebfbfa7", func := "loop.example/g00503/laws.FnBosses", spec := "fnBosses", apart := false, narrowed := true }
def FnBossesUptoSaid : Prop := fnBossesUptoRow.holds Try.pinned (OpenSpec.upto fnBossesSpec)

/-- 'laws.FnExactWantMsg', WHERE WHAT IT READS IS OF BULK AT MOST 1048576: true; the input reads as it did. -/
def fnExactWantMsgUptoRow : OpenClaim := { program := "ytkfnhbpjphjckaa", sum := "f69ae4043ccd6e6494d15aeabc816f59ab5085264318316119e831257ebfbfa7", func := "loop.example/g00503/laws.FnExactWantMsg", spec := "fnExactWantMsg", apart := false, narrowed := true }
def FnExactWantMsgUptoSaid : Prop := fnExactWantMsgUptoRow.holds Try.pinned (OpenSpec.upto fnExactWantMsgSpec)

/-- 'laws.FnExactPartMsg', WHERE WHAT IT READS IS OF BULK AT MOST 1048576: true; the input reads as it did. -/
def fnExactPartMsgUptoRow : OpenClaim := { program := "ytkfnhbpjphjckaa", sum := "f69ae4043ccd6e6494d15aeabc816f59ab5085264318316119e831257ebfbfa7", func := "loop.example/g00503/laws.FnExactPartMsg", spec := "fnExactPartMsg", apart := false, narrowed := true }
def FnExactPartMsgUptoSaid : Prop := fnExactPartMsgUptoRow.holds Try.pinned (OpenSpec.upto fnExactPartMsgSpec)

/-- 'laws.FnExactSameMsg', WHERE WHAT IT READS IS OF BULK AT MOST 1048576: true; the input reads as it did. -/
def fnExactSameMsgUptoRow : OpenClaim := { program := "ytkfnhbpjphjckaa", sum := "f69ae4043ccd6e6494d15aeabc816f59ab5085264318316119e831257ebfbfa7", func := "loop.example/g00503/laws.FnExactSameMsg", spec := "fnExactSameMsg", apart := false, narrowed := true }
def FnExactSameMsgUptoSaid : Prop := fnExactSameMsgUptoRow.holds Try.pinned (OpenSpec.upto fnExactSameMsgSpec)

/-- 'laws.FnTrees', WHERE WHAT IT READS IS OF BULK AT MOST 1048576: true; the input reads as it did. -/
def fnTreesUptoRow : OpenClaim := { program := "ytkfnhbpjphjckaa", sum := "f69ae4043ccd6e6494d15aeabc816f59ab5085264318316119e831257ebfbfa7", func := "loop.example/g00503/laws.FnTrees", spec := "fnTrees", unfollowed := true, recurses := true, apart := false, narrowed := true }
def FnTreesUptoSaid : Prop := fnTreesUptoRow.holds Try.pinned (OpenSpec.upto fnTreesSpec)

end Rows
end Go.Proofs.Ytkfnhbpjphjckaa
