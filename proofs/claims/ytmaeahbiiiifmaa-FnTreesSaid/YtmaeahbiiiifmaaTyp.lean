/- What comes in at the laws' types, told by kinds. Written by a program of this seat. -/
import Derived.Test.YtmaeahbiiiifmaaOpn
import Derived.Test.YtmaeahbiiiifmaaQ0
namespace Go.Proofs.Ytmaeahbiiiifmaa.Q
open Go.RowKit Go.Proofs.Ytmaeahbiiiifmaa Go.Proofs.YtmaeahbiiiifmaaW.PrintWords
set_option linter.unusedVariables false

end Go.Proofs.Ytmaeahbiiiifmaa.Q
