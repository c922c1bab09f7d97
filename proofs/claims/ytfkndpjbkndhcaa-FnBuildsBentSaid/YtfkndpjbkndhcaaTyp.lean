/- What comes in at the laws' types, told by kinds. Written by a program of this seat. -/
import Derived.Test.YtfkndpjbkndhcaaOpn
import Derived.Test.YtfkndpjbkndhcaaQ11
namespace Go.Proofs.Ytfkndpjbkndhcaa.Q
open Go.RowKit Go.Proofs.Ytfkndpjbkndhcaa Go.Proofs.YtfkndpjbkndhcaaW.PrintWords
set_option linter.unusedVariables false

end Go.Proofs.Ytfkndpjbkndhcaa.Q
