/-
  No cell of these rows narrows 'for every input' (looked for: loops, veiled, ifaces, maps, wideKeys, modest, calm, conditions, laid).
  DERIVED. THE GIVEN ROWS OF THIS SEAT. 12 by the template 'for every input the law returns true; each argument reads behind the call as it read before'; 0 by the template 'total and deterministic' (their statements: YtodedajpbmogcaaTotals.lean).
  GIVEN WITH THE SEED: the statements are not yours to turn. If you find one false, say at which input.
  Laid BY PROGRAM, IN A SANDBOX (cutbox-rows.mjs): the forced cells as the released guide's own fill.sh prints them over the translation 393473bab5a208de… (all of the seat's roots in one cut). By AI agents, Wed Nov 11 2026. No macro, syntax, notation, axiom, sorry.
-/
import Derived.Test.YtodedajpbmogcaaChecked
import GoSem.Claim
import GoSem.ClaimJoined
import GoSem.ClaimMapViews
import Derived.JoinedTies
import Derived.KernelRfl
namespace Go.Proofs.Ytodedajpbmogcaa
/- THE CELL 'sum', in the pinned program and in every row, IS THE sha256 OF THE DUMP (.gsa) THAT YtodedajpbmogcaaProg.lean LOADS. Nothing in Lean hashes anything: it is a label: what it is worth is what the hold of that sum in a sandbox is worth. -/
noncomputable def Try.pinned : Pinned := { name := "ytodedajpbmogcaa", sum := "393473bab5a208deaccc5b5437b99d877a69a0ac2009cef32a733a3ed324a1dc", checked := Try.checked }
namespace Rows
def none {H : Type} : Left H := { results := [], args := [] }

/-- 'laws.FnExactStepsLeft': WHATEVER THE INPUT: true; the input reads as it did. -/
def fnExactStepsLeftSpec : ChangeSpec := { name := "fnExactStepsLeft", fn := fun _ => fun
  | [d] => { results := [.lit (.bool true)], args := [d] }
  | _ => none }
def fnExactStepsLeftRow : OpenClaim := { program := "ytodedajpbmogcaa", sum := "393473bab5a208deaccc5b5437b99d877a69a0ac2009cef32a733a3ed324a1dc", func := "loop.example/g00503/laws.FnExactStepsLeft", spec := "fnExactStepsLeft", apart := false }
def FnExactStepsLeftSaid : Prop := fnExactStepsLeftRow.holds Try.pinned (OpenSpec.ofChange fnExactStepsLeftSpec)

/-- ITS FALSE NEIGHBOUR: 'it returns false'. Refute it at one input. -/
def fnExactStepsLeftWrong : ChangeSpec := { name := "fnExactStepsLeft", fn := fun _ => fun
  | [d] => { results := [.lit (.bool false)], args := [d] }
  | _ => none }
def FnExactStepsLeftWrongFalsely : Prop := fnExactStepsLeftRow.holds Try.pinned (OpenSpec.ofChange fnExactStepsLeftWrong)

/-- 'laws.FnExactPhName': WHATEVER THE INPUT: true; the input reads as it did. -/
def fnExactPhNameSpec : ChangeSpec := { name := "fnExactPhName", fn := fun _ => fun
  | [d] => { results := [.lit (.bool true)], args := [d] }
  | _ => none }
def fnExactPhNameRow : OpenClaim := { program := "ytodedajpbmogcaa", sum := "393473bab5a208deaccc5b5437b99d877a69a0ac2009cef32a733a3ed324a1dc", func := "loop.example/g00503/laws.FnExactPhName", spec := "fnExactPhName", apart := false }
def FnExactPhNameSaid : Prop := fnExactPhNameRow.holds Try.pinned (OpenSpec.ofChange fnExactPhNameSpec)

/-- ITS FALSE NEIGHBOUR: 'it returns false'. Refute it at one input. -/
def fnExactPhNameWrong : ChangeSpec := { name := "fnExactPhName", fn := fun _ => fun
  | [d] => { results := [.lit (.bool false)], args := [d] }
  | _ => none }
def FnExactPhNameWrongFalsely : Prop := fnExactPhNameRow.holds Try.pinned (OpenSpec.ofChange fnExactPhNameWrong)

/-- 'laws.FnExactTreeOk': WHATEVER THE INPUT: true; the input reads as it did. -/
def fnExactTreeOkSpec : ChangeSpec := { name := "fnExactTreeOk", fn := fun _ => fun
  | [d] => { results := [.lit (.bool true)], args := [d] }
  | _ => none }
def fnExactTreeOkRow : OpenClaim := { program := "ytodedajpbmogcaa", sum := "393473bab5a208deaccc5b5437b99d877a69a0ac2009cef32a733a3ed324a1dc", func := "loop.example/g00503/laws.FnExactTreeOk", spec := "fnExactTreeOk", apart := false }
def FnExactTreeOkSaid : Prop := fnExactTreeOkRow.holds Try.pinned (OpenSpec.ofChange fnExactTreeOkSpec)

/-- ITS FALSE NEIGHBOUR: 'it returns false'. Refute it at one input. -/
def fnExactTreeOkWrong : ChangeSpec := { name := "fnExactTreeOk", fn := fun _ => fun
  | [d] => { results := [.lit (.bool false)], args := [d] }
  | _ => none }
def FnExactTreeOkWrongFalsely : Prop := fnExactTreeOkRow.holds Try.pinned (OpenSpec.ofChange fnExactTreeOkWrong)

/-- 'laws.FnExactDeepOf': WHATEVER THE INPUT: true; the input reads as it did. -/
def fnExactDeepOfSpec : ChangeSpec := { name := "fnExactDeepOf", fn := fun _ => fun
  | [d1, d2] => { results := [.lit (.bool true)], args := [d1, d2] }
  | _ => none }
def fnExactDeepOfRow : OpenClaim := { program := "ytodedajpbmogcaa", sum := "393473bab5a208deaccc5b5437b99d877a69a0ac2009cef32a733a3ed324a1dc", func := "loop.example/g00503/laws.FnExactDeepOf", spec := "fnExactDeepOf", apart := false }
def FnExactDeepOfSaid : Prop := fnExactDeepOfRow.holds Try.pinned (OpenSpec.ofChange fnExactDeepOfSpec)

/-- ITS FALSE NEIGHBOUR: 'it returns false'. Refute it at one input. -/
def fnExactDeepOfWrong : ChangeSpec := { name := "fnExactDeepOf", fn := fun _ => fun
  | [d1, d2] => { results := [.lit (.bool false)], args := [d1, d2] }
  | _ => none }
def FnExactDeepOfWrongFalsely : Prop := fnExactDeepOfRow.holds Try.pinned (OpenSpec.ofChange fnExactDeepOfWrong)

/-- 'laws.FnExactKidAt': WHATEVER THE INPUT: true; the input reads as it did. -/
def fnExactKidAtSpec : ChangeSpec := { name := "fnExactKidAt", fn := fun _ => fun
  | [d1, d2] => { results := [.lit (.bool true)], args := [d1, d2] }
  | _ => none }
def fnExactKidAtRow : OpenClaim := { program := "ytodedajpbmogcaa", sum := "393473bab5a208deaccc5b5437b99d877a69a0ac2009cef32a733a3ed324a1dc", func := "loop.example/g00503/laws.FnExactKidAt", spec := "fnExactKidAt", unfollowed := true, recurses := true, apart := false }
def FnExactKidAtSaid : Prop := fnExactKidAtRow.holds Try.pinned (OpenSpec.ofChange fnExactKidAtSpec)

/-- ITS FALSE NEIGHBOUR: 'it returns false'. Refute it at one input. -/
def fnExactKidAtWrong : ChangeSpec := { name := "fnExactKidAt", fn := fun _ => fun
  | [d1, d2] => { results := [.lit (.bool false)], args := [d1, d2] }
  | _ => none }
def FnExactKidAtWrongFalsely : Prop := fnExactKidAtRow.holds Try.pinned (OpenSpec.ofChange fnExactKidAtWrong)

/-- 'laws.FnExactKidsOk': WHATEVER THE INPUT: true; the input reads as it did. -/
def fnExactKidsOkSpec : ChangeSpec := { name := "fnExactKidsOk", fn := fun _ => fun
  | [d] => { results := [.lit (.bool true)], args := [d] }
  | _ => none }
def fnExactKidsOkRow : OpenClaim := { program := "ytodedajpbmogcaa", sum := "393473bab5a208deaccc5b5437b99d877a69a0ac2009cef32a733a3ed324a1dc", func := "loop.example/g00503/laws.FnExactKidsOk", spec := "fnExactKidsOk", apart := false }
def FnExactKidsOkSaid : Prop := fnExactKidsOkRow.holds Try.pinned (OpenSpec.ofChange fnExactKidsOkSpec)

/-- ITS FALSE NEIGHBOUR: 'it returns false'. Refute it at one input. -/
def fnExactKidsOkWrong : ChangeSpec := { name := "fnExactKidsOk", fn := fun _ => fun
  | [d] => { results := [.lit (.bool false)], args := [d] }
  | _ => none }
def FnExactKidsOkWrongFalsely : Prop := fnExactKidsOkRow.holds Try.pinned (OpenSpec.ofChange fnExactKidsOkWrong)

/-- 'laws.FnExactDoneOf': WHATEVER THE INPUT: true; the input reads as it did. -/
def fnExactDoneOfSpec : ChangeSpec := { name := "fnExactDoneOf", fn := fun _ => fun
  | [d] => { results := [.lit (.bool true)], args := [d] }
  | _ => none }
def fnExactDoneOfRow : OpenClaim := { program := "ytodedajpbmogcaa", sum := "393473bab5a208deaccc5b5437b99d877a69a0ac2009cef32a733a3ed324a1dc", func := "loop.example/g00503/laws.FnExactDoneOf", spec := "fnExactDoneOf", unfollowed := true, recurses := true, apart := false }
def FnExactDoneOfSaid : Prop := fnExactDoneOfRow.holds Try.pinned (OpenSpec.ofChange fnExactDoneOfSpec)

/-- ITS FALSE NEIGHBOUR: 'it returns false'. Refute it at one input. -/
def fnExactDoneOfWrong : ChangeSpec := { name := "fnExactDoneOf", fn := fun _ => fun
  | [d] => { results := [.lit (.bool false)], args := [d] }
  | _ => none }
def FnExactDoneOfWrongFalsely : Prop := fnExactDoneOfRow.holds Try.pinned (OpenSpec.ofChange fnExactDoneOfWrong)

/-- 'laws.FnExactWantsOf': WHATEVER THE INPUT: true; the input reads as it did. -/
def fnExactWantsOfSpec : ChangeSpec := { name := "fnExactWantsOf", fn := fun _ => fun
  | [d] => { results := [.lit (.bool true)], args := [d] }
  | _ => none }
def fnExactWantsOfRow : OpenClaim := { program := "ytodedajpbmogcaa", sum := "393473bab5a208deaccc5b5437b99d877a69a0ac2009cef32a733a3ed324a1dc", func := "loop.example/g00503/laws.FnExactWantsOf", spec := "fnExactWantsOf", unfollowed := true, recurses := true, apart := false }
def FnExactWantsOfSaid : Prop := fnExactWantsOfRow.holds Try.pinned (OpenSpec.ofChange fnExactWantsOfSpec)

/-- ITS FALSE NEIGHBOUR: 'it returns false'. Refute it at one input. -/
def fnExactWantsOfWrong : ChangeSpec := { name := "fnExactWantsOf", fn := fun _ => fun
  | [d] => { results := [.lit (.bool false)], args := [d] }
  | _ => none }
def FnExactWantsOfWrongFalsely : Prop := fnExactWantsOfRow.holds Try.pinned (OpenSpec.ofChange fnExactWantsOfWrong)

/-- 'laws.FnExactPathUp': WHATEVER THE INPUT: true; the input reads as it did. -/
def fnExactPathUpSpec : ChangeSpec := { name := "fnExactPathUp", fn := fun _ => fun
  | [d1, d2] => { results := [.lit (.bool true)], args := [d1, d2] }
  | _ => none }
def fnExactPathUpRow : OpenClaim := { program := "ytodedajpbmogcaa", sum := "393473bab5a208deaccc5b5437b99d877a69a0ac2009cef32a733a3ed324a1dc", func := "loop.example/g00503/laws.FnExactPathUp", spec := "fnExactPathUp", apart := false }
def FnExactPathUpSaid : Prop := fnExactPathUpRow.holds Try.pinned (OpenSpec.ofChange fnExactPathUpSpec)

/-- ITS FALSE NEIGHBOUR: 'it returns false'. Refute it at one input. -/
def fnExactPathUpWrong : ChangeSpec := { name := "fnExactPathUp", fn := fun _ => fun
  | [d1, d2] => { results := [.lit (.bool false)], args := [d1, d2] }
  | _ => none }
def FnExactPathUpWrongFalsely : Prop := fnExactPathUpRow.holds Try.pinned (OpenSpec.ofChange fnExactPathUpWrong)

/-- 'laws.FnExactAncestor': WHATEVER THE INPUT: true; the input reads as it did. -/
def fnExactAncestorSpec : ChangeSpec := { name := "fnExactAncestor", fn := fun _ => fun
  | [d1, d2, d3] => { results := [.lit (.bool true)], args := [d1, d2, d3] }
  | _ => none }
def fnExactAncestorRow : OpenClaim := { program := "ytodedajpbmogcaa", sum := "393473bab5a208deaccc5b5437b99d877a69a0ac2009cef32a733a3ed324a1dc", func := "loop.example/g00503/laws.FnExactAncestor", spec := "fnExactAncestor", apart := false }
def FnExactAncestorSaid : Prop := fnExactAncestorRow.holds Try.pinned (OpenSpec.ofChange fnExactAncestorSpec)

/-- ITS FALSE NEIGHBOUR: 'it returns false'. Refute it at one input. -/
def fnExactAncestorWrong : ChangeSpec := { name := "fnExactAncestor", fn := fun _ => fun
  | [d1, d2, d3] => { results := [.lit (.bool false)], args := [d1, d2, d3] }
  | _ => none }
def FnExactAncestorWrongFalsely : Prop := fnExactAncestorRow.holds Try.pinned (OpenSpec.ofChange fnExactAncestorWrong)

/-- 'laws.FnExactKidsOf': WHATEVER THE INPUT: true; the input reads as it did. -/
def fnExactKidsOfSpec : ChangeSpec := { name := "fnExactKidsOf", fn := fun _ => fun
  | [d1, d2] => { results := [.lit (.bool true)], args := [d1, d2] }
  | _ => none }
def fnExactKidsOfRow : OpenClaim := { program := "ytodedajpbmogcaa", sum := "393473bab5a208deaccc5b5437b99d877a69a0ac2009cef32a733a3ed324a1dc", func := "loop.example/g00503/laws.FnExactKidsOf", spec := "fnExactKidsOf", unfollowed := true, recurses := true, apart := false }
def FnExactKidsOfSaid : Prop := fnExactKidsOfRow.holds Try.pinned (OpenSpec.ofChange fnExactKidsOfSpec)

/-- ITS FALSE NEIGHBOUR: 'it returns false'. Refute it at one input. -/
def fnExactKidsOfWrong : ChangeSpec := { name := "fnExactKidsOf", fn := fun _ => fun
  | [d1, d2] => { results := [.lit (.bool false)], args := [d1, d2] }
  | _ => none }
def FnExactKidsOfWrongFalsely : Prop := fnExactKidsOfRow.holds Try.pinned (OpenSpec.ofChange fnExactKidsOfWrong)

/-- 'laws.FnExactSendTo': WHATEVER THE INPUT: true; the input reads as it did. -/
def fnExactSendToSpec : ChangeSpec := { name := "fnExactSendTo", fn := fun _ => fun
  | [d1, d2, d3] => { results := [.lit (.bool true)], args := [d1, d2, d3] }
  | _ => none }
def fnExactSendToRow : OpenClaim := { program := "ytodedajpbmogcaa", sum := "393473bab5a208deaccc5b5437b99d877a69a0ac2009cef32a733a3ed324a1dc", func := "loop.example/g00503/laws.FnExactSendTo", spec := "fnExactSendTo", unfollowed := true, recurses := true, apart := false }
def FnExactSendToSaid : Prop := fnExactSendToRow.holds Try.pinned (OpenSpec.ofChange fnExactSendToSpec)

/-- ITS FALSE NEIGHBOUR: 'it returns false'. Refute it at one input. -/
def fnExactSendToWrong : ChangeSpec := { name := "fnExactSendTo", fn := fun _ => fun
  | [d1, d2, d3] => { results := [.lit (.bool false)], args := [d1, d2, d3] }
  | _ => none }
def FnExactSendToWrongFalsely : Prop := fnExactSendToRow.holds Try.pinned (OpenSpec.ofChange fnExactSendToWrong)

/- THE SECOND FORM. 'bulk': how many values and letters a reading holds, each counted each time it is reached (what is shared counts as often as it is met; a slice's spare places count too). A statement '..UptoSaid' is the law's where the arguments, and the package variables that the reading takes, are together of bulk at most 1048576: NARROWER than '..Said'. Prove '..Said' where nothing that the law and all that it calls make is longer than what came in: it says more and counts as full. Else prove '..UptoSaid'. A law counts once. -/
mutual
def uptoBulk {H : Type} : DataW H → Nat
  | .lit (.string bytes) => bytes.length + 1
  | .lit _ => 1
  | .nil => 1
  | .ptr d => uptoBulk d + 1
  | .slice elems spare => uptoBulkAll elems + uptoBulkAll spare + 1
  | .agg parts => uptoBulkAll parts + 1
  | .iface _ d => uptoBulk d + 1
  | .map entries => uptoBulkEntries entries + 1
  | .held _ => 1
def uptoBulkAll {H : Type} : List (DataW H) → Nat
  | [] => 0
  | d :: r => uptoBulk d + uptoBulkAll r
def uptoBulkEntries {H : Type} : List (Lit × DataW H) → Nat
  | [] => 0
  | x :: r => uptoBulkEntry x + uptoBulkEntries r
def uptoBulkEntry {H : Type} : Lit × DataW H → Nat
  | (.string bytes, d) => bytes.length + uptoBulk d + 1
  | (_, d) => uptoBulk d + 1
 end
def uptoSmall : (H : Type) → List (DataW H) → Bool := fun _ ds => decide (uptoBulkAll ds ≤ 1048576)
def OpenSpec.upto (s : _root_.Go.ChangeSpec) : _root_.Go.OpenSpec := { _root_.Go.OpenSpec.ofChange s with cond := some uptoSmall }

/-- 'laws.FnExactStepsLeft', WHERE WHAT IT READS IS OF BULK AT MOST 1048576: true; the input reads as it did. -/
def fnExactStepsLeftUptoRow : OpenClaim := { program := "ytodedajpbmogcaa", sum := "393473bab5a208deaccc5b5437b99d877a69a0ac2009cef32a733a3ed324a1dc", func := "loop.example/g00503/laws.FnExactStepsLeft", spec := "fnExactStepsLeft", apart := false, narrowed := true }
def FnExactStepsLeftUptoSaid : Prop := fnExactStepsLeftUptoRow.holds Try.pinned (OpenSpec.upto fnExactStepsLeftSpec)

/-- 'laws.FnExactPhName', WHERE WHAT IT READS IS OF BULK AT MOST 1048576: true; the input reads as it did. -/
def fnExactPhNameUptoRow : OpenClaim := { program := "ytodedajpbmogcaa", sum := "393473bab5a208deaccc5b5437b99d877a69a0ac2009cef32a733a3ed324a1dc", func := "loop.example/g00503/laws.FnExactPhName", spec := "fnExactPhName", apart := false, narrowed := true }
def FnExactPhNameUptoSaid : Prop := fnExactPhNameUptoRow.holds Try.pinned (OpenSpec.upto fnExactPhNameSpec)

/-- 'laws.FnExactTreeOk', WHERE WHAT IT READS IS OF BULK AT MOST 1048576: true; the input reads as it did. -/
def fnExactTreeOkUptoRow : OpenClaim := { program := "ytodedajpbmogcaa", sum := "393473bab5a208deaccc5b5437b99d877a69a0ac2009cef32a733a3ed324a1dc", func := "loop.example/g00503/laws.FnExactTreeOk", spec := "fnExactTreeOk", apart := false, narrowed := true }
def FnExactTreeOkUptoSaid : Prop := fnExactTreeOkUptoRow.holds Try.pinned (OpenSpec.upto fnExactTreeOkSpec)

/-- 'laws.FnExactDeepOf', WHERE WHAT IT READS IS OF BULK AT MOST 1048576: true; the input reads as it did. -/
def fnExactDeepOfUptoRow : OpenClaim := { program := "ytodedajpbmogcaa", sum := "393473bab5a208deaccc5b5437b99d877a69a0ac2009cef32a733a3ed324a1dc", func := "loop.example/g00503/laws.FnExactDeepOf", spec := "fnExactDeepOf", apart := false, narrowed := true }
def FnExactDeepOfUptoSaid : Prop := fnExactDeepOfUptoRow.holds Try.pinned (OpenSpec.upto fnExactDeepOfSpec)

/-- 'laws.FnExactKidAt', WHERE WHAT IT READS IS OF BULK AT MOST 1048576: true; the input reads as it did. -/
def fnExactKidAtUptoRow : OpenClaim := { program := "ytodedajpbmogcaa", sum := "393473bab5a208deaccc5b5437b99d877a69a0ac2009cef32a733a3ed324a1dc", func := "loop.example/g00503/laws.FnExactKidAt", spec := "fnExactKidAt", unfollowed := true, recurses := true, apart := false, narrowed := true }
def FnExactKidAtUptoSaid : Prop := fnExactKidAtUptoRow.holds Try.pinned (OpenSpec.upto fnExactKidAtSpec)

/-- 'laws.FnExactKidsOk', WHERE WHAT IT READS IS OF BULK AT MOST 1048576: true; the input reads as it did. -/
def fnExactKidsOkUptoRow : OpenClaim := { program := "ytodedajpbmogcaa", sum := "393473bab5a208deaccc5b5437b99d877a69a0ac2009cef32a733a3ed324a1dc", func := "loop.example/g00503/laws.FnExactKidsOk", spec := "fnExactKidsOk", apart := false, narrowed := true }
def FnExactKidsOkUptoSaid : Prop := fnExactKidsOkUptoRow.holds Try.pinned (OpenSpec.upto fnExactKidsOkSpec)

/-- 'laws.FnExactDoneOf', WHERE WHAT IT READS IS OF BULK AT MOST 1048576: true; the input reads as it did. -/
def fnExactDoneOfUptoRow : OpenClaim := { program := "ytodedajpbmogcaa", sum := "393473bab5a208deaccc5b5437b99d877a69a0ac2009cef32a733a3ed324a1dc", func := "loop.example/g00503/laws.FnExactDoneOf", spec := "fnExactDoneOf", unfollowed := true, recurses := true, apart := false, narrowed := true }
def FnExactDoneOfUptoSaid : Prop := fnExactDoneOfUptoRow.holds Try.pinned (OpenSpec.upto fnExactDoneOfSpec)

/-- 'laws.FnExactWantsOf', WHERE WHAT IT READS IS OF BULK AT MOST 1048576: true; the input reads as it did. -/
def fnExactWantsOfUptoRow : OpenClaim := { program := "ytodedajpbmogcaa", sum := "393473bab5a208deaccc5b5437b99d877a69a0ac2009cef32a733a3ed324a1dc", func := "loop.example/g00503/laws.FnExactWantsOf", spec := "fnExactWantsOf", unfollowed := true, recurses := true, apart := false, narrowed := true }
def FnExactWantsOfUptoSaid : Prop := fnExactWantsOfUptoRow.holds Try.pinned (OpenSpec.upto fnExactWantsOfSpec)

/-- 'laws.FnExactPathUp', WHERE WHAT IT READS IS OF BULK AT MOST 1048576: true; the input reads as it did. -/
def fnExactPathUpUptoRow : OpenClaim := { program := "ytodedajpbmogcaa", sum := "393473bab5a208deaccc5b5437b99d877a69a0ac2009cef32a733a3ed324a1dc", func := "loop.example/g00503/laws.FnExactPathUp", spec := "fnExactPathUp", apart := false, narrowed := true }
def FnExactPathUpUptoSaid : Prop := fnExactPathUpUptoRow.holds Try.pinned (OpenSpec.upto fnExactPathUpSpec)

/-- 'laws.FnExactAncestor', WHERE WHAT IT READS IS OF BULK AT MOST 1048576: true; the input reads as it did. -/
def fnExactAncestorUptoRow : OpenClaim := { program := "ytodedajpbmogcaa", sum := "393473bab5a208deaccc5b5437b99d877a69a0ac2009cef32a733a3ed324a1dc", func := "loop.example/g00503/laws.FnExactAncestor", spec := "fnExactAncestor", apart := false, narrowed := true }
def FnExactAncestorUptoSaid : Prop := fnExactAncestorUptoRow.holds Try.pinned (OpenSpec.upto fnExactAncestorSpec)

/-- 'laws.FnExactKidsOf', WHERE WHAT IT READS IS OF BULK AT MOST 1048576: true; the input reads as it did. -/
def fnExactKidsOfUptoRow : OpenClaim := { program := "ytodedajpbmogcaa", sum := "393473bab5a208deaccc5b5437b99d877a69a0ac2009cef32a733a3ed324a1dc", func := "loop.example/g00503/laws.FnExactKidsOf", spec := "fnExactKidsOf", unfollowed := true, recurses := true, apart := false, narrowed := true }
def FnExactKidsOfUptoSaid : Prop := fnExactKidsOfUptoRow.holds Try.pinned (OpenSpec.upto fnExactKidsOfSpec)

/-- 'laws.FnExactSendTo', WHERE WHAT IT READS IS OF BULK AT MOST 1048576: true; the input reads as it did. -/
def fnExactSendToUptoRow : OpenClaim := { program := "ytodedajpbmogcaa", sum := "393473bab5a208deaccc5b5437b99d877a69a0ac2009cef32a733a3ed324a1dc", func := "loop.example/g00503/laws.FnExactSendTo", spec := "fnExactSendTo", unfollowed := true, recurses := true, apart := false, narrowed := true }
def FnExactSendToUptoSaid : Prop := fnExactSendToUptoRow.holds Try.pinned (OpenSpec.upto fnExactSendToSpec)

end Rows
end Go.Proofs.Ytodedajpbmogcaa
