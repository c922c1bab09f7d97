/- What comes in at the laws' types, told by kinds. Written by a program of this seat. -/
import Derived.Test.YtdohjkbgbplgmaaOpn
import Derived.Test.YtdohjkbgbplgmaaQ0
namespace Go.Proofs.Ytdohjkbgbplgmaa.Q
open Go.RowKit Go.Proofs.Ytdohjkbgbplgmaa Go.Proofs.YtdohjkbgbplgmaaW.PrintWords
set_option linter.unusedVariables false
def good101 (x : S101) : Prop := (Lit.int .i64 x.f0).wf = true ∧ (Lit.int .i64 x.f1).wf = true
theorem opens101 (W : World) : Opn.Opens Try.prog W k101 101 good101 :=
  Opn.opens_struct (f := (fun x : S101 => (x.f0, x.f1))) Try.underlying101 (by kernel_rfl) (fun y => ⟨⟨y.1, y.2⟩, rfl⟩) (Opn.opensAt_cons (by kernel_rfl) (Opn.opens_int Try.underlying3) (Opn.opensAt_one (by kernel_rfl) (Opn.opens_int Try.underlying3)))
def good24 (x : S24) : Prop := (Lit.int .i64 x.f0).wf = true ∧ (Lit.int .i64 x.f1).wf = true ∧ (Lit.int .i64 x.f2).wf = true ∧ (Opn.Each good101) x.f3
theorem opens24 (W : World) : Opn.Opens Try.prog W k24 24 good24 :=
  Opn.opens_struct (f := (fun x : S24 => (x.f0, x.f1, x.f2, x.f3))) Try.underlying24 (by kernel_rfl) (fun y => ⟨⟨y.1, y.2.1, y.2.2.1, y.2.2.2⟩, rfl⟩) (Opn.opensAt_cons (by kernel_rfl) (Opn.opens_int Try.underlying3) (Opn.opensAt_cons (by kernel_rfl) (Opn.opens_int Try.underlying3) (Opn.opensAt_cons (by kernel_rfl) (Opn.opens_int Try.underlying3) (Opn.opensAt_one (by kernel_rfl) (Opn.opens_slice Try.underlying22 (by kernel_rfl) (opens101 W))))))
def good27 (x : S27) : Prop := (Lit.int .i64 x.f0).wf = true ∧ (Lit.int .i64 x.f1).wf = true ∧ good24 x.f2 ∧ (Lit.int .i64 x.f3).wf = true ∧ (Lit.int .i64 x.f4).wf = true ∧ (Lit.int .i64 x.f5).wf = true ∧ (Opn.Each (fun n : Int => (Lit.int .u8 n).wf = true)) x.f6
theorem opens27 (W : World) : Opn.Opens Try.prog W k27 27 good27 :=
  Opn.opens_struct (f := (fun x : S27 => (x.f0, x.f1, x.f2, x.f3, x.f4, x.f5, x.f6))) Try.underlying27 (by kernel_rfl) (fun y => ⟨⟨y.1, y.2.1, y.2.2.1, y.2.2.2.1, y.2.2.2.2.1, y.2.2.2.2.2.1, y.2.2.2.2.2.2⟩, rfl⟩) (Opn.opensAt_cons (by kernel_rfl) (Opn.opens_int Try.underlying3) (Opn.opensAt_cons (by kernel_rfl) (Opn.opens_int Try.underlying3) (Opn.opensAt_cons (by kernel_rfl) (opens24 W) (Opn.opensAt_cons (by kernel_rfl) (Opn.opens_int Try.underlying3) (Opn.opensAt_cons (by kernel_rfl) (Opn.opens_int Try.underlying3) (Opn.opensAt_cons (by kernel_rfl) (Opn.opens_int Try.underlying3) (Opn.opensAt_one (by kernel_rfl) (Opn.opens_slice Try.underlying25 (by kernel_rfl) (Opn.opens_int Try.underlying5)))))))))
end Go.Proofs.Ytdohjkbgbplgmaa.Q
