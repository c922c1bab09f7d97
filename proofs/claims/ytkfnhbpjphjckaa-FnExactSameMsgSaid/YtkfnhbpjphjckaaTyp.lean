/- What comes in at the laws' types, told by kinds. Written by a program of this seat. -/
import Derived.Test.YtkfnhbpjphjckaaOpn
import Derived.Test.YtkfnhbpjphjckaaQ0
namespace Go.Proofs.Ytkfnhbpjphjckaa.Q
open Go.RowKit Go.Proofs.Ytkfnhbpjphjckaa Go.Proofs.YtkfnhbpjphjckaaW.PrintWords
set_option linter.unusedVariables false
def good79 (x : S79) : Prop := (Lit.int .i64 x.f0).wf = true ∧ (Lit.int .i64 x.f1).wf = true ∧ (Lit.int .i64 x.f2).wf = true ∧ (Lit.int .i64 x.f3).wf = true ∧ (Lit.int .i64 x.f4).wf = true
theorem opens79 (W : World) : Opn.Opens Try.prog W k79 79 good79 :=
  Opn.opens_struct (f := (fun x : S79 => (x.f0, x.f1, x.f2, x.f3, x.f4))) Try.underlying79 (by kernel_rfl) (fun y => ⟨⟨y.1, y.2.1, y.2.2.1, y.2.2.2.1, y.2.2.2.2⟩, rfl⟩) (Opn.opensAt_cons (by kernel_rfl) (Opn.opens_int Try.underlying3) (Opn.opensAt_cons (by kernel_rfl) (Opn.opens_int Try.underlying3) (Opn.opensAt_cons (by kernel_rfl) (Opn.opens_int Try.underlying3) (Opn.opensAt_cons (by kernel_rfl) (Opn.opens_int Try.underlying3) (Opn.opensAt_one (by kernel_rfl) (Opn.opens_int Try.underlying3))))))
def good32 (x : S32) : Prop := (Opn.Each (fun n : Int => (Lit.int .i64 n).wf = true)) x.f0
theorem opens32 (W : World) : Opn.Opens Try.prog W k32 32 good32 :=
  Opn.opens_struct (f := (fun x : S32 => x.f0)) Try.underlying32 (by kernel_rfl) (fun y => ⟨⟨y⟩, rfl⟩) (Opn.opensAt_one (by kernel_rfl) (Opn.opens_slice Try.underlying30 (by kernel_rfl) (Opn.opens_int Try.underlying3)))
def good107 (x : S107) : Prop := (Lit.int .i64 x.f0).wf = true ∧ (Lit.int .i64 x.f1).wf = true
theorem opens107 (W : World) : Opn.Opens Try.prog W k107 107 good107 :=
  Opn.opens_struct (f := (fun x : S107 => (x.f0, x.f1))) Try.underlying107 (by kernel_rfl) (fun y => ⟨⟨y.1, y.2⟩, rfl⟩) (Opn.opensAt_cons (by kernel_rfl) (Opn.opens_int Try.underlying3) (Opn.opensAt_one (by kernel_rfl) (Opn.opens_int Try.underlying3)))
def good65 (x : S65) : Prop := (Lit.int .i64 x.f0).wf = true ∧ (Lit.int .i64 x.f1).wf = true ∧ (Lit.int .i64 x.f2).wf = true ∧ (Opn.Each good107) x.f3
theorem opens65 (W : World) : Opn.Opens Try.prog W k65 65 good65 :=
  Opn.opens_struct (f := (fun x : S65 => (x.f0, x.f1, x.f2, x.f3))) Try.underlying65 (by kernel_rfl) (fun y => ⟨⟨y.1, y.2.1, y.2.2.1, y.2.2.2⟩, rfl⟩) (Opn.opensAt_cons (by kernel_rfl) (Opn.opens_int Try.underlying3) (Opn.opensAt_cons (by kernel_rfl) (Opn.opens_int Try.underlying3) (Opn.opensAt_cons (by kernel_rfl) (Opn.opens_int Try.underlying3) (Opn.opensAt_one (by kernel_rfl) (Opn.opens_slice Try.underlying63 (by kernel_rfl) (opens107 W))))))
def good67 (x : S67) : Prop := (Lit.int .i64 x.f0).wf = true ∧ (Lit.int .i64 x.f1).wf = true ∧ good65 x.f2 ∧ (Lit.int .i64 x.f3).wf = true ∧ (Lit.int .i64 x.f4).wf = true ∧ (Lit.int .i64 x.f5).wf = true ∧ (Opn.Each (fun n : Int => (Lit.int .u8 n).wf = true)) x.f6
theorem opens67 (W : World) : Opn.Opens Try.prog W k67 67 good67 :=
  Opn.opens_struct (f := (fun x : S67 => (x.f0, x.f1, x.f2, x.f3, x.f4, x.f5, x.f6))) Try.underlying67 (by kernel_rfl) (fun y => ⟨⟨y.1, y.2.1, y.2.2.1, y.2.2.2.1, y.2.2.2.2.1, y.2.2.2.2.2.1, y.2.2.2.2.2.2⟩, rfl⟩) (Opn.opensAt_cons (by kernel_rfl) (Opn.opens_int Try.underlying3) (Opn.opensAt_cons (by kernel_rfl) (Opn.opens_int Try.underlying3) (Opn.opensAt_cons (by kernel_rfl) (opens65 W) (Opn.opensAt_cons (by kernel_rfl) (Opn.opens_int Try.underlying3) (Opn.opensAt_cons (by kernel_rfl) (Opn.opens_int Try.underlying3) (Opn.opensAt_cons (by kernel_rfl) (Opn.opens_int Try.underlying3) (Opn.opensAt_one (by kernel_rfl) (Opn.opens_slice Try.underlying44 (by kernel_rfl) (Opn.opens_int Try.underlying5)))))))))
end Go.Proofs.Ytkfnhbpjphjckaa.Q
