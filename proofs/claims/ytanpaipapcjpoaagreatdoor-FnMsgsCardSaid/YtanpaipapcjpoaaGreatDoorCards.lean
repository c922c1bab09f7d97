/-
  DERIVED. GIVEN WITH THE SEED: THE CARDS: each row of YtanpaipapcjpoaaGreatDoorRows.lean that lists a variable, with what it lists TIED to the program's text (the seventh form; the later family's looks); each row that meets fmt, with fmt's text TOLD by the authors' own Lean function (tested against real Go, not proved from fmt's source: count such statements apart). THE CARD IS WHAT COUNTS. Prove the row's statement (the work); the ties are given (YtanpaipapcjpoaaGreatDoorTie.lean); close each card by the builder's one call (the guide's Derived/Test/ToyasCard.lean, 'card_holds'). Laid BY PROGRAM, IN A SANDBOX (cutbox-door.mjs). By AI agents, Wed Nov 11 2026. No macro, syntax, notation, axiom, sorry.
-/
import Derived.Test.YtanpaipapcjpoaaGreatDoorRows
import GoSem.ClaimSeven
namespace Go.Proofs.YtanpaipapcjpoaaGreatDoor
namespace Rows

/-- THE TIED CARD OF 'laws.FnMsgs'. -/
def fnMsgsCard : Claim7 := { stood := { row := fnMsgsRow, standIns := [], harness := (true, "7642c0921cb9c2c74dbb448b998cca04bda95d99b8219b711222ad257578919b"), looks := false }, kinds := [], alts := [], laidByText := true, laidKinds := [.data, .data, .data], laidTests := true, laidLooks := .later }
def FnMsgsCardSaid : Prop := Claim7.holds Tryz.pinned (.plain (OpenSpec.ofChange fnMsgsSpec)) fnMsgsCard

/-- THE SECOND FORM's CARD OF 'laws.FnMsgs'. -/
def fnMsgsUptoCard : Claim7 := { stood := { row := fnMsgsUptoRow, standIns := [], harness := (true, "7642c0921cb9c2c74dbb448b998cca04bda95d99b8219b711222ad257578919b"), looks := false }, kinds := [], alts := [], laidByText := true, laidKinds := [.data, .data, .data], laidTests := true, laidLooks := .later }
def FnMsgsUptoCardSaid : Prop := Claim7.holds Tryz.pinned (.plain (OpenSpec.upto fnMsgsSpec)) fnMsgsUptoCard
end Rows
end Go.Proofs.YtanpaipapcjpoaaGreatDoor
