/- Whether a number is a set of blocks. No condition. -/
import Derived.Test.YtnoplippaiblcaaQ4
import Derived.Test.YtnoplippaiblcaaQ9
import Derived.Test.YtnoplippaiblcaaPbNum
namespace Go.Proofs.Ytnoplippaiblcaa.Pb
open Go.RowKit Go.Proofs.Ytnoplippaiblcaa Go.Proofs.Ytnoplippaiblcaa.Q Go.Proofs.YtnoplippaiblcaaW.PrintWords Go.Proofs.YtnoplippaiblcaaW.PrintLast
set_option linter.unusedVariables false
set_option linter.unusedSimpArgs false

/-- A set of blocks. -/
def setOk (s : Int) : Bool := decide (0 ≤ s ∧ s ≤ 1099511627775)
theorem specSetOk_eq (s : Int) : spec_SetOk.f s = some (setOk s) := by
  unfold spec_SetOk.f
  rw [l1In_eq]
  rfl
theorem implSetOk_eq (s : Int) : impl_SetOk.f s = some (setOk s) := by
  unfold impl_SetOk.f
  rw [within_eq]
  rfl
end Go.Proofs.Ytnoplippaiblcaa.Pb
