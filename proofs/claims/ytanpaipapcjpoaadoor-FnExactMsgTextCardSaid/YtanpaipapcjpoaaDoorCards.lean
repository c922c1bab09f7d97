/-
  DERIVED. GIVEN WITH THE SEED: THE CARDS: each row of YtanpaipapcjpoaaDoorRows.lean that lists a variable, with what it lists TIED to the program's text (the seventh form; the later family's looks); each row that meets fmt, with fmt's text TOLD by the authors' own Lean function (tested against real Go, not proved from fmt's source: count such statements apart). THE CARD IS WHAT COUNTS. Prove the row's statement (the work); the ties are given (YtanpaipapcjpoaaDoorTie.lean); close each card by the builder's one call (the guide's Derived/Test/ToyasCard.lean, 'card_holds'). Laid BY PROGRAM, IN A SANDBOX (cutbox-door.mjs). By AI agents, Wed Nov 11 2026. No macro, syntax, notation, axiom, sorry.
-/
import Derived.Test.YtanpaipapcjpoaaDoorRows
import GoSem.ClaimSeven
namespace Go.Proofs.YtanpaipapcjpoaaDoor
namespace Rows

/-- THE TIED CARD OF 'laws.FnExactMsgText'. -/
def fnExactMsgTextCard : Claim7 := { stood := { row := fnExactMsgTextRow, standIns := [], harness := (true, "0d4300064408c3c4ca8a4180a61d32f2920009f6eb281389dffde11de0ea201f"), looks := false }, kinds := [], alts := [], laidByText := true, laidKinds := [.data, .data, .data], laidTests := true, laidLooks := .later }
def FnExactMsgTextCardSaid : Prop := Claim7.holds Tryd.pinned (.plain (OpenSpec.ofChange fnExactMsgTextSpec)) fnExactMsgTextCard

/-- THE SECOND FORM's CARD OF 'laws.FnExactMsgText'. -/
def fnExactMsgTextUptoCard : Claim7 := { stood := { row := fnExactMsgTextUptoRow, standIns := [], harness := (true, "0d4300064408c3c4ca8a4180a61d32f2920009f6eb281389dffde11de0ea201f"), looks := false }, kinds := [], alts := [], laidByText := true, laidKinds := [.data, .data, .data], laidTests := true, laidLooks := .later }
def FnExactMsgTextUptoCardSaid : Prop := Claim7.holds Tryd.pinned (.plain (OpenSpec.upto fnExactMsgTextSpec)) fnExactMsgTextUptoCard
end Rows
end Go.Proofs.YtanpaipapcjpoaaDoor
