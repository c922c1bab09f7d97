/- What comes in at the laws' types, told by kinds. Written by a program of this seat. -/
import Derived.Test.YtaofakpljnkplaaOpn
import Derived.Test.YtaofakpljnkplaaQ0
namespace Go.Proofs.Ytaofakpljnkplaa.Q
open Go.RowKit Go.Proofs.Ytaofakpljnkplaa Go.Proofs.YtaofakpljnkplaaW.PrintWords
set_option linter.unusedVariables false

end Go.Proofs.Ytaofakpljnkplaa.Q
