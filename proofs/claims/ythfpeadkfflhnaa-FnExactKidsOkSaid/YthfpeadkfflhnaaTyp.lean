/- What comes in at the laws' types, told by kinds. Written by a program of this seat. -/
import Derived.Test.YthfpeadkfflhnaaOpn
import Derived.Test.YthfpeadkfflhnaaQ0
namespace Go.Proofs.Ythfpeadkfflhnaa.Q
open Go.RowKit Go.Proofs.Ythfpeadkfflhnaa Go.Proofs.YthfpeadkfflhnaaW.PrintWords
set_option linter.unusedVariables false
def good34 (x : S34) : Prop := (Lit.int .i64 x.f0).wf = true ∧ (Lit.int .i64 x.f1).wf = true ∧ (Lit.int .i64 x.f2).wf = true ∧ (Lit.int .i64 x.f3).wf = true ∧ (Lit.int .i64 x.f4).wf = true
theorem opens34 (W : World) : Opn.Opens Try.prog W k34 34 good34 :=
  Opn.opens_struct (f := (fun x : S34 => (x.f0, x.f1, x.f2, x.f3, x.f4))) Try.underlying34 (by kernel_rfl) (fun y => ⟨⟨y.1, y.2.1, y.2.2.1, y.2.2.2.1, y.2.2.2.2⟩, rfl⟩) (Opn.opensAt_cons (by kernel_rfl) (Opn.opens_int Try.underlying3) (Opn.opensAt_cons (by kernel_rfl) (Opn.opens_int Try.underlying3) (Opn.opensAt_cons (by kernel_rfl) (Opn.opens_int Try.underlying3) (Opn.opensAt_cons (by kernel_rfl) (Opn.opens_int Try.underlying3) (Opn.opensAt_one (by kernel_rfl) (Opn.opens_int Try.underlying3))))))
end Go.Proofs.Ythfpeadkfflhnaa.Q
