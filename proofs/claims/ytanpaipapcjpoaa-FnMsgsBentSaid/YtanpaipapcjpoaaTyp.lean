/- What comes in at the laws' types, told by kinds. Written by a program of this seat. -/
import Derived.Test.YtanpaipapcjpoaaOpn
import Derived.Test.YtanpaipapcjpoaaQ0
namespace Go.Proofs.Ytanpaipapcjpoaa.Q
open Go.RowKit Go.Proofs.Ytanpaipapcjpoaa Go.Proofs.YtanpaipapcjpoaaW.PrintWords
set_option linter.unusedVariables false

end Go.Proofs.Ytanpaipapcjpoaa.Q
