/- What comes in at the laws' types, told by kinds. Written by a program of this seat. -/
import Derived.Test.YtogilihkphjjbaaOpn
import Derived.Test.YtogilihkphjjbaaQ0
namespace Go.Proofs.Ytogilihkphjjbaa.Q
open Go.RowKit Go.Proofs.Ytogilihkphjjbaa Go.Proofs.YtogilihkphjjbaaW.PrintWords
set_option linter.unusedVariables false
def good24 (x : S24) : Prop := (Lit.int .i64 x.f0).wf = true ∧ (Lit.int .i64 x.f1).wf = true ∧ (Lit.int .i64 x.f2).wf = true
theorem opens24 (W : World) : Opn.Opens Try.prog W k24 24 good24 :=
  Opn.opens_struct (f := (fun x : S24 => (x.f0, x.f1, x.f2))) Try.underlying24 (by kernel_rfl) (fun y => ⟨⟨y.1, y.2.1, y.2.2⟩, rfl⟩) (Opn.opensAt_cons (by kernel_rfl) (Opn.opens_int Try.underlying3) (Opn.opensAt_cons (by kernel_rfl) (Opn.opens_int Try.underlying3) (Opn.opensAt_one (by kernel_rfl) (Opn.opens_int Try.underlying3))))
def good51 (x : S51) : Prop := (Lit.int .i64 x.f0).wf = true ∧ (Lit.int .i64 x.f1).wf = true ∧ (Opn.Each (fun n : Int => (Lit.int .u8 n).wf = true)) x.f2 ∧ good24 x.f3
theorem opens51 (W : World) : Opn.Opens Try.prog W k51 51 good51 :=
  Opn.opens_struct (f := (fun x : S51 => (x.f0, x.f1, x.f2, x.f3))) Try.underlying51 (by kernel_rfl) (fun y => ⟨⟨y.1, y.2.1, y.2.2.1, y.2.2.2⟩, rfl⟩) (Opn.opensAt_cons (by kernel_rfl) (Opn.opens_int Try.underlying3) (Opn.opensAt_cons (by kernel_rfl) (Opn.opens_int Try.underlying3) (Opn.opensAt_cons (by kernel_rfl) (Opn.opens_slice Try.underlying22 (by kernel_rfl) (Opn.opens_int Try.underlying5)) (Opn.opensAt_one (by kernel_rfl) (opens24 W)))))
def good27 (x : S27) : Prop := (Opn.Each (fun n : Int => (Lit.int .u8 n).wf = true)) x.f0 ∧ (Opn.Each (fun n : Int => (Lit.int .u8 n).wf = true)) x.f1 ∧ good24 x.f2 ∧ (Opn.Each good51) x.f3
theorem opens27 (W : World) : Opn.Opens Try.prog W k27 27 good27 :=
  Opn.opens_struct (f := (fun x : S27 => (x.f0, x.f1, x.f2, x.f3))) Try.underlying27 (by kernel_rfl) (fun y => ⟨⟨y.1, y.2.1, y.2.2.1, y.2.2.2⟩, rfl⟩) (Opn.opensAt_cons (by kernel_rfl) (Opn.opens_slice Try.underlying22 (by kernel_rfl) (Opn.opens_int Try.underlying5)) (Opn.opensAt_cons (by kernel_rfl) (Opn.opens_slice Try.underlying22 (by kernel_rfl) (Opn.opens_int Try.underlying5)) (Opn.opensAt_cons (by kernel_rfl) (opens24 W) (Opn.opensAt_one (by kernel_rfl) (Opn.opens_slice Try.underlying25 (by kernel_rfl) (opens51 W))))))
end Go.Proofs.Ytogilihkphjjbaa.Q
