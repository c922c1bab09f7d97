/- What comes in at the laws' types, told by kinds. Written by a program of this seat. -/
import Derived.Test.YtodedajpbmogcaaOpn
import Derived.Test.YtodedajpbmogcaaQ0
namespace Go.Proofs.Ytodedajpbmogcaa.Q
open Go.RowKit Go.Proofs.Ytodedajpbmogcaa Go.Proofs.YtodedajpbmogcaaW.PrintWords
set_option linter.unusedVariables false
def good27 (x : S27) : Prop := (Opn.Each (fun n : Int => (Lit.int .i64 n).wf = true)) x.f0
theorem opens27 (W : World) : Opn.Opens Try.prog W k27 27 good27 :=
  Opn.opens_struct (f := (fun x : S27 => x.f0)) Try.underlying27 (by kernel_rfl) (fun y => ⟨⟨y⟩, rfl⟩) (Opn.opensAt_one (by kernel_rfl) (Opn.opens_slice Try.underlying25 (by kernel_rfl) (Opn.opens_int Try.underlying3)))
def good60 (x : S60) : Prop := (Lit.int .i64 x.f0).wf = true ∧ (Lit.int .i64 x.f1).wf = true ∧ (Lit.int .i64 x.f2).wf = true ∧ (Lit.int .i64 x.f3).wf = true ∧ (Lit.int .i64 x.f4).wf = true
theorem opens60 (W : World) : Opn.Opens Try.prog W k60 60 good60 :=
  Opn.opens_struct (f := (fun x : S60 => (x.f0, x.f1, x.f2, x.f3, x.f4))) Try.underlying60 (by kernel_rfl) (fun y => ⟨⟨y.1, y.2.1, y.2.2.1, y.2.2.2.1, y.2.2.2.2⟩, rfl⟩) (Opn.opensAt_cons (by kernel_rfl) (Opn.opens_int Try.underlying3) (Opn.opensAt_cons (by kernel_rfl) (Opn.opens_int Try.underlying3) (Opn.opensAt_cons (by kernel_rfl) (Opn.opens_int Try.underlying3) (Opn.opensAt_cons (by kernel_rfl) (Opn.opens_int Try.underlying3) (Opn.opensAt_one (by kernel_rfl) (Opn.opens_int Try.underlying3))))))
end Go.Proofs.Ytodedajpbmogcaa.Q
