/- What comes in at the laws' types, told by kinds. Written by a program of this seat. -/
import Derived.Test.YtanpaipapcjpoaaGreatDoorOpn
import Derived.Test.YtanpaipapcjpoaaGreatDoorQ0
namespace Go.Proofs.YtanpaipapcjpoaaGreatDoor.Q
open Go.RowKit Go.Proofs.YtanpaipapcjpoaaGreatDoor Go.Proofs.YtanpaipapcjpoaaGreatDoorW.PrintWords
set_option linter.unusedVariables false

end Go.Proofs.YtanpaipapcjpoaaGreatDoor.Q
