/- What comes in at the laws' types, told by kinds. Written by a program of this seat. -/
import Derived.Test.YtanpaipapcjpoaaDoorOpn
import Derived.Test.YtanpaipapcjpoaaDoorQ0
namespace Go.Proofs.YtanpaipapcjpoaaDoor.Q
open Go.RowKit Go.Proofs.YtanpaipapcjpoaaDoor Go.Proofs.YtanpaipapcjpoaaDoorW.PrintWords
set_option linter.unusedVariables false
def good66 (x : S66) : Prop := (Lit.int .i64 x.f0).wf = true ∧ (Lit.int .i64 x.f1).wf = true
theorem opens66 (W : World) : Opn.Opens Tryd.prog W k66 66 good66 :=
  Opn.opens_struct (f := (fun x : S66 => (x.f0, x.f1))) Tryd.underlying66 (by kernel_rfl) (fun y => ⟨⟨y.1, y.2⟩, rfl⟩) (Opn.opensAt_cons (by kernel_rfl) (Opn.opens_int Tryd.underlying3) (Opn.opensAt_one (by kernel_rfl) (Opn.opens_int Tryd.underlying3)))
def good24 (x : S24) : Prop := (Lit.int .i64 x.f0).wf = true ∧ (Lit.int .i64 x.f1).wf = true ∧ (Lit.int .i64 x.f2).wf = true ∧ (Opn.Each good66) x.f3
theorem opens24 (W : World) : Opn.Opens Tryd.prog W k24 24 good24 :=
  Opn.opens_struct (f := (fun x : S24 => (x.f0, x.f1, x.f2, x.f3))) Tryd.underlying24 (by kernel_rfl) (fun y => ⟨⟨y.1, y.2.1, y.2.2.1, y.2.2.2⟩, rfl⟩) (Opn.opensAt_cons (by kernel_rfl) (Opn.opens_int Tryd.underlying3) (Opn.opensAt_cons (by kernel_rfl) (Opn.opens_int Tryd.underlying3) (Opn.opensAt_cons (by kernel_rfl) (Opn.opens_int Tryd.underlying3) (Opn.opensAt_one (by kernel_rfl) (Opn.opens_slice Tryd.underlying22 (by kernel_rfl) (opens66 W))))))
def good27 (x : S27) : Prop := (Lit.int .i64 x.f0).wf = true ∧ (Lit.int .i64 x.f1).wf = true ∧ good24 x.f2 ∧ (Lit.int .i64 x.f3).wf = true ∧ (Lit.int .i64 x.f4).wf = true ∧ (Lit.int .i64 x.f5).wf = true ∧ (Opn.Each (fun n : Int => (Lit.int .u8 n).wf = true)) x.f6
theorem opens27 (W : World) : Opn.Opens Tryd.prog W k27 27 good27 :=
  Opn.opens_struct (f := (fun x : S27 => (x.f0, x.f1, x.f2, x.f3, x.f4, x.f5, x.f6))) Tryd.underlying27 (by kernel_rfl) (fun y => ⟨⟨y.1, y.2.1, y.2.2.1, y.2.2.2.1, y.2.2.2.2.1, y.2.2.2.2.2.1, y.2.2.2.2.2.2⟩, rfl⟩) (Opn.opensAt_cons (by kernel_rfl) (Opn.opens_int Tryd.underlying3) (Opn.opensAt_cons (by kernel_rfl) (Opn.opens_int Tryd.underlying3) (Opn.opensAt_cons (by kernel_rfl) (opens24 W) (Opn.opensAt_cons (by kernel_rfl) (Opn.opens_int Tryd.underlying3) (Opn.opensAt_cons (by kernel_rfl) (Opn.opens_int Tryd.underlying3) (Opn.opensAt_cons (by kernel_rfl) (Opn.opens_int Tryd.underlying3) (Opn.opensAt_one (by kernel_rfl) (Opn.opens_slice Tryd.underlying25 (by kernel_rfl) (Opn.opens_int Tryd.underlying5)))))))))
end Go.Proofs.YtanpaipapcjpoaaDoor.Q
