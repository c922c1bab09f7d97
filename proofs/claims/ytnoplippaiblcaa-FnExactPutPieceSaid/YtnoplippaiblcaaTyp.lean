/- What comes in at the laws' types, told by kinds. Written by a program of this seat. -/
import Derived.Test.YtnoplippaiblcaaOpn
import Derived.Test.YtnoplippaiblcaaQ0
namespace Go.Proofs.Ytnoplippaiblcaa.Q
open Go.RowKit Go.Proofs.Ytnoplippaiblcaa Go.Proofs.YtnoplippaiblcaaW.PrintWords
set_option linter.unusedVariables false
def good86 (x : S86) : Prop := (Lit.int .i64 x.f0).wf = true ∧ (Lit.int .i64 x.f1).wf = true
theorem opens86 (W : World) : Opn.Opens Try.prog W k86 86 good86 :=
  Opn.opens_struct (f := (fun x : S86 => (x.f0, x.f1))) Try.underlying86 (by kernel_rfl) (fun y => ⟨⟨y.1, y.2⟩, rfl⟩) (Opn.opensAt_cons (by kernel_rfl) (Opn.opens_int Try.underlying3) (Opn.opensAt_one (by kernel_rfl) (Opn.opens_int Try.underlying3)))
def good24 (x : S24) : Prop := (Lit.int .i64 x.f0).wf = true ∧ (Lit.int .i64 x.f1).wf = true ∧ (Lit.int .i64 x.f2).wf = true ∧ (Opn.Each good86) x.f3
theorem opens24 (W : World) : Opn.Opens Try.prog W k24 24 good24 :=
  Opn.opens_struct (f := (fun x : S24 => (x.f0, x.f1, x.f2, x.f3))) Try.underlying24 (by kernel_rfl) (fun y => ⟨⟨y.1, y.2.1, y.2.2.1, y.2.2.2⟩, rfl⟩) (Opn.opensAt_cons (by kernel_rfl) (Opn.opens_int Try.underlying3) (Opn.opensAt_cons (by kernel_rfl) (Opn.opens_int Try.underlying3) (Opn.opensAt_cons (by kernel_rfl) (Opn.opens_int Try.underlying3) (Opn.opensAt_one (by kernel_rfl) (Opn.opens_slice Try.underlying22 (by kernel_rfl) (opens86 W))))))
def good27 (x : S27) : Prop := (Lit.int .i64 x.f0).wf = true ∧ (Opn.Each (fun n : Int => (Lit.int .u8 n).wf = true)) x.f1
theorem opens27 (W : World) : Opn.Opens Try.prog W k27 27 good27 :=
  Opn.opens_struct (f := (fun x : S27 => (x.f0, x.f1))) Try.underlying27 (by kernel_rfl) (fun y => ⟨⟨y.1, y.2⟩, rfl⟩) (Opn.opensAt_cons (by kernel_rfl) (Opn.opens_int Try.underlying3) (Opn.opensAt_one (by kernel_rfl) (Opn.opens_slice Try.underlying25 (by kernel_rfl) (Opn.opens_int Try.underlying5))))
end Go.Proofs.Ytnoplippaiblcaa.Q
