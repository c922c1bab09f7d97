/- What comes in at the laws' types, told by kinds. Written by a program of this seat. -/
import Derived.Test.YtjgmkkogmfogbaaGreatOpn
import Derived.Test.YtjgmkkogmfogbaaGreatQ5
namespace Go.Proofs.YtjgmkkogmfogbaaGreat.Q
open Go.RowKit Go.Proofs.YtjgmkkogmfogbaaGreat Go.Proofs.YtjgmkkogmfogbaaGreatW.PrintWords
set_option linter.unusedVariables false
def good24 (x:S24):Prop:=(Lit.int .i64 x.f0).wf=true∧(Lit.int .i64 x.f1).wf=true∧(Lit.int .i64 x.f2).wf=true
theorem opens24 (W:World):Opn.Opens Tryz.prog W k24 24 good24:=
  Opn.opens_struct (f:=(fun x:S24=>(x.f0,x.f1,x.f2))) Tryz.underlying24 (by kernel_rfl) (fun y=>⟨⟨y.1,y.2.1,y.2.2⟩,rfl⟩) (Opn.opensAt_cons (by kernel_rfl) (Opn.opens_int Tryz.underlying3) (Opn.opensAt_cons (by kernel_rfl) (Opn.opens_int Tryz.underlying3) (Opn.opensAt_one (by kernel_rfl) (Opn.opens_int Tryz.underlying3))))
def good79 (x:S79):Prop:=(Lit.int .i64 x.f0).wf=true∧(Lit.int .i64 x.f1).wf=true∧(Opn.Each (fun n:Int=>(Lit.int .u8 n).wf=true)) x.f2∧good24 x.f3
theorem opens79 (W:World):Opn.Opens Tryz.prog W k79 79 good79:=
  Opn.opens_struct (f:=(fun x:S79=>(x.f0,x.f1,x.f2,x.f3))) Tryz.underlying79 (by kernel_rfl) (fun y=>⟨⟨y.1,y.2.1,y.2.2.1,y.2.2.2⟩,rfl⟩) (Opn.opensAt_cons (by kernel_rfl) (Opn.opens_int Tryz.underlying3) (Opn.opensAt_cons (by kernel_rfl) (Opn.opens_int Tryz.underlying3) (Opn.opensAt_cons (by kernel_rfl) (Opn.opens_slice Tryz.underlying22 (by kernel_rfl) (Opn.opens_int Tryz.underlying5)) (Opn.opensAt_one (by kernel_rfl) (opens24 W)))))
def good27 (x:S27):Prop:=(Opn.Each (fun n:Int=>(Lit.int .u8 n).wf=true)) x.f0∧(Opn.Each (fun n:Int=>(Lit.int .u8 n).wf=true)) x.f1∧good24 x.f2∧(Opn.Each good79) x.f3
theorem opens27 (W:World):Opn.Opens Tryz.prog W k27 27 good27:=
  Opn.opens_struct (f:=(fun x:S27=>(x.f0,x.f1,x.f2,x.f3))) Tryz.underlying27 (by kernel_rfl) (fun y=>⟨⟨y.1,y.2.1,y.2.2.1,y.2.2.2⟩,rfl⟩) (Opn.opensAt_cons (by kernel_rfl) (Opn.opens_slice Tryz.underlying22 (by kernel_rfl) (Opn.opens_int Tryz.underlying5)) (Opn.opensAt_cons (by kernel_rfl) (Opn.opens_slice Tryz.underlying22 (by kernel_rfl) (Opn.opens_int Tryz.underlying5)) (Opn.opensAt_cons (by kernel_rfl) (opens24 W) (Opn.opensAt_one (by kernel_rfl) (Opn.opens_slice Tryz.underlying25 (by kernel_rfl) (opens79 W))))))
def good98 (x:S98):Prop:=(Lit.int .i64 x.f0).wf=true∧(Lit.int .i64 x.f1).wf=true
theorem opens98 (W:World):Opn.Opens Tryz.prog W k98 98 good98:=
  Opn.opens_struct (f:=(fun x:S98=>(x.f0,x.f1))) Tryz.underlying98 (by kernel_rfl) (fun y=>⟨⟨y.1,y.2⟩,rfl⟩) (Opn.opensAt_cons (by kernel_rfl) (Opn.opens_int Tryz.underlying3) (Opn.opensAt_one (by kernel_rfl) (Opn.opens_int Tryz.underlying3)))
def good30 (x:S30):Prop:=(Lit.int .i64 x.f0).wf=true∧(Lit.int .i64 x.f1).wf=true∧(Lit.int .i64 x.f2).wf=true∧(Opn.Each good98) x.f3
theorem opens30 (W:World):Opn.Opens Tryz.prog W k30 30 good30:=
  Opn.opens_struct (f:=(fun x:S30=>(x.f0,x.f1,x.f2,x.f3))) Tryz.underlying30 (by kernel_rfl) (fun y=>⟨⟨y.1,y.2.1,y.2.2.1,y.2.2.2⟩,rfl⟩) (Opn.opensAt_cons (by kernel_rfl) (Opn.opens_int Tryz.underlying3) (Opn.opensAt_cons (by kernel_rfl) (Opn.opens_int Tryz.underlying3) (Opn.opensAt_cons (by kernel_rfl) (Opn.opens_int Tryz.underlying3) (Opn.opensAt_one (by kernel_rfl) (Opn.opens_slice Tryz.underlying28 (by kernel_rfl) (opens98 W))))))
def good32 (x:S32):Prop:=(Lit.int .i64 x.f0).wf=true∧(Opn.Each (fun n:Int=>(Lit.int .u8 n).wf=true)) x.f1
theorem opens32 (W:World):Opn.Opens Tryz.prog W k32 32 good32:=
  Opn.opens_struct (f:=(fun x:S32=>(x.f0,x.f1))) Tryz.underlying32 (by kernel_rfl) (fun y=>⟨⟨y.1,y.2⟩,rfl⟩) (Opn.opensAt_cons (by kernel_rfl) (Opn.opens_int Tryz.underlying3) (Opn.opensAt_one (by kernel_rfl) (Opn.opens_slice Tryz.underlying22 (by kernel_rfl) (Opn.opens_int Tryz.underlying5))))
end Go.Proofs.YtjgmkkogmfogbaaGreat.Q
