/- Functions of the program as plain Lean functions, and that a call of each comes to what its function tells. -/
import Derived.Test.YtjgmkkogmfogbaaGreatProg
import Derived.Below
import Derived.Deep.Draws
import Derived.Deep.AppendLies
import Derived.Maps.AppendAt
import Derived.OwnWalk
import Derived.Laws.BytesArg
import Derived.Laws.MakeOwn
import Derived.Laws.OwnMore
import Derived.Deep.OwnRows
import Derived.Tactics
import Derived.Lib.ConvBytes
import Derived.Laws.Slices
import Derived.WalkKit
import Derived.KernelRfl
import Derived.RowKit3
import Derived.Deep.LoopGhost
import Derived.Deep.QuietTactic
import Derived.BigQuiet
import Derived.WideLaws
import Derived.Deep.DeepCutAuto
import Derived.Deep.CutBlock
import Derived.Deep.RegionHeld3
import Derived.Laws.Rows
import Derived.Lib.AppendStr
import Derived.ArgAppend
import Derived.Laws.IdiomCopy
import Derived.OrdersHeld
import Derived.Laws.BitsLemmas
import Derived.RowKit
import Derived.Test.YtjgmkkogmfogbaaGreatSq
import Derived.Test.YtjgmkkogmfogbaaGreatSp
import Derived.Test.YtjgmkkogmfogbaaGreatWWords
set_option maxHeartbeats 40000000
set_option maxRecDepth 100000
namespace Go.Proofs.YtjgmkkogmfogbaaGreat.Q
open Go.RowKit Go.Proofs.YtjgmkkogmfogbaaGreatW.PrintWords Go.Proofs.YtjgmkkogmfogbaaGreatW.PrintLast Go.Proofs.YtjgmkkogmfogbaaGreatW.PrintMore
attribute [local go_sem] min2_int min_two
set_option linter.unusedVariables false
set_option linter.unusedSimpArgs false
def errW :Option Int→Value
  |none=>.nilIface
  |some c=>.iface 0 (.int .i64 c)
theorem errW_none :errW none=.nilIface:=rfl
theorem errW_some (c:Int):errW (some c)=.iface 0 (.int .i64 c):=rfl
theorem info5 :(Tryz.prog.info? 5).map (fun i=>(i.zero,i.size,i.bytes))=some (some (.int .u8 0),1,1):=by kernel_rfl
theorem info91 :(Tryz.prog.info? 91).map (fun i=>(i.zero,i.size,i.bytes))=some (some (.agg #[(.int .i64 0),(.int .i64 0),(.slice none 0 0),(.int .i64 0),(.int .i64 0),(.int .i64 0)]),6,64):=by kernel_rfl
theorem info96 :(Tryz.prog.info? 96).map (fun i=>(i.zero,i.size,i.bytes))=some (some (.agg #[(.int .i64 0),(.int .i64 0)]),2,16):=by kernel_rfl
-- the values' own types
structure S24 where
  f0:Int
  f1:Int
  f2:Int
def z24 :S24:=⟨(0:Int),(0:Int),(0:Int)⟩
def k24 :Kd S24:=Kd.iso (Kd.pair (Kd.int .i64) (Kd.pair (Kd.int .i64) (Kd.int .i64))) (fun x:S24=>(x.f0,x.f1,x.f2))
theorem k24_open {w:World}{x:S24}{cs:List Value}(h:k24.K w x cs):cs=[.int .i64 x.f0,.int .i64 x.f1,.int .i64 x.f2]:=by
  obtain⟨_,_,rfl,rfl,⟨_,_,rfl,rfl,rfl⟩⟩:=h;exact rfl
structure S79 where
  f0:Int
  f1:Int
  f2:(List Int)
  f3:S24
def z79 :S79:=⟨(0:Int),(0:Int),([]:List Int),z24⟩
def k79 :Kd S79:=Kd.iso (Kd.pair (Kd.int .i64) (Kd.pair (Kd.int .i64) (Kd.pair (Kd.slice 5 (Kd.int .u8)) k24))) (fun x:S79=>(x.f0,x.f1,x.f2,x.f3))
theorem k79_open {w:World}{x:S79}{cs:List Value}(h:k79.K w x cs):∃A2 c2,cs=[.int .i64 x.f0,.int .i64 x.f1,.slice A2 x.f2.length c2,.int .i64 x.f3.f0,.int .i64 x.f3.f1,.int .i64 x.f3.f2]∧x.f2.length≤c2∧(Kd.int .u8).C w A2 x.f2.length x.f2:=by
  obtain⟨_,_,rfl,rfl,⟨_,_,rfl,rfl,⟨_,_,rfl,⟨A2,c2,rfl,l2,g2⟩,s3⟩⟩⟩:=h;obtain rfl:=k24_open s3;exact⟨A2,c2,rfl,l2,g2⟩
def rd_T79 (xs:List S79)(i:Int):S79:=xs.getD i.toNat z79
theorem at_T79 {w:World}{A:Option Addr}{n:Nat}{xs:List S79}(h:Kd.C k79 w A n xs)(i:Int)(h0:0≤i)(h1:i<n):∃ad A2 c2,A=some ad∧w.cell? (ad.add (i.toNat * 6))=some (.int .i64 (rd_T79 xs i).f0)∧w.cell? ⟨(ad.add (i.toNat * 6)).block,(ad.add (i.toNat * 6)).off+1,none⟩=some (.int .i64 (rd_T79 xs i).f1)∧w.cell? ⟨(ad.add (i.toNat * 6)).block,(ad.add (i.toNat * 6)).off+2,none⟩=some (.slice A2 (rd_T79 xs i).f2.length c2)∧w.cell? ⟨(ad.add (i.toNat * 6)).block,(ad.add (i.toNat * 6)).off+3,none⟩=some (.int .i64 (rd_T79 xs i).f3.f0)∧w.cell? ⟨(ad.add (i.toNat * 6)).block,(ad.add (i.toNat * 6)).off+4,none⟩=some (.int .i64 (rd_T79 xs i).f3.f1)∧w.cell? ⟨(ad.add (i.toNat * 6)).block,(ad.add (i.toNat * 6)).off+5,none⟩=some (.int .i64 (rd_T79 xs i).f3.f2)∧(rd_T79 xs i).f2.length≤c2∧(Kd.int .u8).C w A2 (rd_T79 xs i).f2.length (rd_T79 xs i).f2:=by
  obtain⟨ad,c,e,_,hK,hc0⟩:=Kd.C_get h z79 i h0 h1;have hc:∀j u,c[j]?=some u→w.cell? (ad.add (i.toNat * 6+j))=some u:=hc0;obtain⟨A2,c2,rfl,l2,g2⟩:=k79_open hK;exact⟨ad,A2,c2,e,hc 0 _ rfl,by rw[← add_field _ _ 1 (by omega)];exact hc 1 _ rfl,by rw[← add_field _ _ 2 (by omega)];exact hc 2 _ rfl,by rw[← add_field _ _ 3 (by omega)];exact hc 3 _ rfl,by rw[← add_field _ _ 4 (by omega)];exact hc 4 _ rfl,by rw[← add_field _ _ 5 (by omega)];exact hc 5 _ rfl,l2,g2⟩
/-! #### struct type 98 -/
structure S98 where
  f0:Int
  f1:Int
def z98 :S98:=⟨(0:Int),(0:Int)⟩
def k98 :Kd S98:=Kd.iso (Kd.pair (Kd.int .i64) (Kd.int .i64)) (fun x:S98=>(x.f0,x.f1))
theorem k98_open {w:World}{x:S98}{cs:List Value}(h:k98.K w x cs):cs=[.int .i64 x.f0,.int .i64 x.f1]:=by
  obtain⟨_,_,rfl,rfl,rfl⟩:=h;exact rfl
def rd_T98 (xs:List S98)(i:Int):S98:=xs.getD i.toNat z98
theorem at_T98 {w:World}{A:Option Addr}{n:Nat}{xs:List S98}(h:Kd.C k98 w A n xs)(i:Int)(h0:0≤i)(h1:i<n):∃ad,A=some ad∧w.cell? (ad.add (i.toNat * 2))=some (.int .i64 (rd_T98 xs i).f0)∧w.cell? ⟨(ad.add (i.toNat * 2)).block,(ad.add (i.toNat * 2)).off+1,none⟩=some (.int .i64 (rd_T98 xs i).f1):=by
  obtain⟨ad,c,e,_,hK,hc0⟩:=Kd.C_get h z98 i h0 h1;have hc:∀j u,c[j]?=some u→w.cell? (ad.add (i.toNat * 2+j))=some u:=hc0;obtain rfl:=k98_open hK;exact⟨ad,e,hc 0 _ rfl,by rw[← add_field _ _ 1 (by omega)];exact hc 1 _ rfl⟩
/-! #### struct type 96 -/
structure S96 where
  f0:Int
  f1:Int
def z96 :S96:=⟨(0:Int),(0:Int)⟩
def k96 :Kd S96:=Kd.iso (Kd.pair (Kd.int .i64) (Kd.int .i64)) (fun x:S96=>(x.f0,x.f1))
theorem k96_open {w:World}{x:S96}{cs:List Value}(h:k96.K w x cs):cs=[.int .i64 x.f0,.int .i64 x.f1]:=by
  obtain⟨_,_,rfl,rfl,rfl⟩:=h;exact rfl
theorem k96_openM {w:World}{base:Nat}{ok:Nat→Prop}{x:S96}{cs:List Value}(h:k96.M w base ok x cs):cs=[.int .i64 x.f0,.int .i64 x.f1]:=by
  obtain⟨_,_,rfl,rfl,rfl⟩:=h;exact rfl
theorem k96_mkM (w:World)(base:Nat)(ok:Nat→Prop)(x:S96):k96.M w base ok x [.int .i64 x.f0,.int .i64 x.f1]:=⟨[.int .i64 x.f0],[.int .i64 x.f1],rfl,rfl,rfl⟩
def rd_T96 (xs:List S96)(i:Int):S96:=xs.getD i.toNat z96
theorem at_T96 {w:World}{A:Option Addr}{n:Nat}{xs:List S96}(h:Kd.C k96 w A n xs)(i:Int)(h0:0≤i)(h1:i<n):∃ad,A=some ad∧w.cell? (ad.add (i.toNat * 2))=some (.int .i64 (rd_T96 xs i).f0)∧w.cell? ⟨(ad.add (i.toNat * 2)).block,(ad.add (i.toNat * 2)).off+1,none⟩=some (.int .i64 (rd_T96 xs i).f1):=by
  obtain⟨ad,c,e,_,hK,hc0⟩:=Kd.C_get h z96 i h0 h1;have hc:∀j u,c[j]?=some u→w.cell? (ad.add (i.toNat * 2+j))=some u:=hc0;obtain rfl:=k96_open hK;exact⟨ad,e,hc 0 _ rfl,by rw[← add_field _ _ 1 (by omega)];exact hc 1 _ rfl⟩
/-! #### struct type 36 -/
structure S36 where
  f0:Int
  f1:Int
  f2:Int
def z36 :S36:=⟨(0:Int),(0:Int),(0:Int)⟩
def k36 :Kd S36:=Kd.iso (Kd.pair (Kd.int .i64) (Kd.pair (Kd.int .i64) (Kd.int .i64))) (fun x:S36=>(x.f0,x.f1,x.f2))
theorem k36_open {w:World}{x:S36}{cs:List Value}(h:k36.K w x cs):cs=[.int .i64 x.f0,.int .i64 x.f1,.int .i64 x.f2]:=by
  obtain⟨_,_,rfl,rfl,⟨_,_,rfl,rfl,rfl⟩⟩:=h;exact rfl
theorem k36_openM {w:World}{base:Nat}{ok:Nat→Prop}{x:S36}{cs:List Value}(h:k36.M w base ok x cs):cs=[.int .i64 x.f0,.int .i64 x.f1,.int .i64 x.f2]:=by
  obtain⟨_,_,rfl,rfl,⟨_,_,rfl,rfl,rfl⟩⟩:=h;exact rfl
theorem k36_mkM (w:World)(base:Nat)(ok:Nat→Prop)(x:S36):k36.M w base ok x [.int .i64 x.f0,.int .i64 x.f1,.int .i64 x.f2]:=⟨[.int .i64 x.f0],[.int .i64 x.f1,.int .i64 x.f2],rfl,rfl,⟨[.int .i64 x.f1],[.int .i64 x.f2],rfl,rfl,rfl⟩⟩
structure S91 where
  f0:Int
  f1:Int
  f2:(List Int)
  f3:S36
def z91 :S91:=⟨(0:Int),(0:Int),([]:List Int),z36⟩
def k91 :Kd S91:=Kd.iso (Kd.pair (Kd.int .i64) (Kd.pair (Kd.int .i64) (Kd.pair (Kd.slice 5 (Kd.int .u8)) k36))) (fun x:S91=>(x.f0,x.f1,x.f2,x.f3))
theorem k91_open {w:World}{x:S91}{cs:List Value}(h:k91.K w x cs):∃A2 c2,cs=[.int .i64 x.f0,.int .i64 x.f1,.slice A2 x.f2.length c2,.int .i64 x.f3.f0,.int .i64 x.f3.f1,.int .i64 x.f3.f2]∧x.f2.length≤c2∧(Kd.int .u8).C w A2 x.f2.length x.f2:=by
  obtain⟨_,_,rfl,rfl,⟨_,_,rfl,rfl,⟨_,_,rfl,⟨A2,c2,rfl,l2,g2⟩,s3⟩⟩⟩:=h;obtain rfl:=k36_open s3;exact⟨A2,c2,rfl,l2,g2⟩
theorem k91_openM {w:World}{base:Nat}{ok:Nat→Prop}{x:S91}{cs:List Value}(h:k91.M w base ok x cs):∃v2,cs=[.int .i64 x.f0,.int .i64 x.f1,v2,.int .i64 x.f3.f0,.int .i64 x.f3.f1,.int .i64 x.f3.f2]∧(Kd.int .u8).R 5 w base ok v2 x.f2:=by
  obtain⟨_,_,rfl,rfl,⟨_,_,rfl,rfl,⟨_,_,rfl,⟨v2,rfl,g2⟩,s3⟩⟩⟩:=h;obtain rfl:=k36_openM s3;exact⟨v2,rfl,g2⟩
theorem k91_mkM (w:World)(base:Nat)(ok:Nat→Prop)(x:S91){v2:Value}(g2:(Kd.int .u8).R 5 w base ok v2 x.f2):k91.M w base ok x [.int .i64 x.f0,.int .i64 x.f1,v2,.int .i64 x.f3.f0,.int .i64 x.f3.f1,.int .i64 x.f3.f2]:=⟨[.int .i64 x.f0],[.int .i64 x.f1,v2,.int .i64 x.f3.f0,.int .i64 x.f3.f1,.int .i64 x.f3.f2],rfl,rfl,⟨[.int .i64 x.f1],[v2,.int .i64 x.f3.f0,.int .i64 x.f3.f1,.int .i64 x.f3.f2],rfl,rfl,⟨[v2],[.int .i64 x.f3.f0,.int .i64 x.f3.f1,.int .i64 x.f3.f2],rfl,⟨v2,rfl,g2⟩,(k36_mkM w base ok x.f3)⟩⟩⟩
def rd_T91 (xs:List S91)(i:Int):S91:=xs.getD i.toNat z91
theorem at_T91 {w:World}{A:Option Addr}{n:Nat}{xs:List S91}(h:Kd.C k91 w A n xs)(i:Int)(h0:0≤i)(h1:i<n):∃ad A2 c2,A=some ad∧w.cell? (ad.add (i.toNat * 6))=some (.int .i64 (rd_T91 xs i).f0)∧w.cell? ⟨(ad.add (i.toNat * 6)).block,(ad.add (i.toNat * 6)).off+1,none⟩=some (.int .i64 (rd_T91 xs i).f1)∧w.cell? ⟨(ad.add (i.toNat * 6)).block,(ad.add (i.toNat * 6)).off+2,none⟩=some (.slice A2 (rd_T91 xs i).f2.length c2)∧w.cell? ⟨(ad.add (i.toNat * 6)).block,(ad.add (i.toNat * 6)).off+3,none⟩=some (.int .i64 (rd_T91 xs i).f3.f0)∧w.cell? ⟨(ad.add (i.toNat * 6)).block,(ad.add (i.toNat * 6)).off+4,none⟩=some (.int .i64 (rd_T91 xs i).f3.f1)∧w.cell? ⟨(ad.add (i.toNat * 6)).block,(ad.add (i.toNat * 6)).off+5,none⟩=some (.int .i64 (rd_T91 xs i).f3.f2)∧(rd_T91 xs i).f2.length≤c2∧(Kd.int .u8).C w A2 (rd_T91 xs i).f2.length (rd_T91 xs i).f2:=by
  obtain⟨ad,c,e,_,hK,hc0⟩:=Kd.C_get h z91 i h0 h1;have hc:∀j u,c[j]?=some u→w.cell? (ad.add (i.toNat * 6+j))=some u:=hc0;obtain⟨A2,c2,rfl,l2,g2⟩:=k91_open hK;exact⟨ad,A2,c2,e,hc 0 _ rfl,by rw[← add_field _ _ 1 (by omega)];exact hc 1 _ rfl,by rw[← add_field _ _ 2 (by omega)];exact hc 2 _ rfl,by rw[← add_field _ _ 3 (by omega)];exact hc 3 _ rfl,by rw[← add_field _ _ 4 (by omega)];exact hc 4 _ rfl,by rw[← add_field _ _ 5 (by omega)];exact hc 5 _ rfl,l2,g2⟩
structure S27 where
  f0:(List Int)
  f1:(List Int)
  f2:S24
  f3:(List S79)
def k27 :Kd S27:=Kd.iso (Kd.pair (Kd.slice 5 (Kd.int .u8)) (Kd.pair (Kd.slice 5 (Kd.int .u8)) (Kd.pair k24 (Kd.slice 79 k79)))) (fun x:S27=>(x.f0,x.f1,x.f2,x.f3))
theorem k27_open {w:World}{x:S27}{cs:List Value}(h:k27.K w x cs):∃A0 c0 A1 c1 A5 c5,cs=[.slice A0 x.f0.length c0,.slice A1 x.f1.length c1,.int .i64 x.f2.f0,.int .i64 x.f2.f1,.int .i64 x.f2.f2,.slice A5 x.f3.length c5]∧x.f0.length≤c0∧(Kd.int .u8).C w A0 x.f0.length x.f0∧x.f1.length≤c1∧(Kd.int .u8).C w A1 x.f1.length x.f1∧x.f3.length≤c5∧k79.C w A5 x.f3.length x.f3:=by
  obtain⟨_,_,rfl,⟨A0,c0,rfl,l0,g0⟩,⟨_,_,rfl,⟨A1,c1,rfl,l1,g1⟩,⟨_,_,rfl,s2,⟨A5,c5,rfl,l5,g5⟩⟩⟩⟩:=h;obtain rfl:=k24_open s2;exact⟨A0,c0,A1,c1,A5,c5,rfl,l0,g0,l1,g1,l5,g5⟩
structure S30 where
  f0:Int
  f1:Int
  f2:Int
  f3:(List S98)
def k30 :Kd S30:=Kd.iso (Kd.pair (Kd.int .i64) (Kd.pair (Kd.int .i64) (Kd.pair (Kd.int .i64) (Kd.slice 98 k98)))) (fun x:S30=>(x.f0,x.f1,x.f2,x.f3))
theorem k30_open {w:World}{x:S30}{cs:List Value}(h:k30.K w x cs):∃A3 c3,cs=[.int .i64 x.f0,.int .i64 x.f1,.int .i64 x.f2,.slice A3 x.f3.length c3]∧x.f3.length≤c3∧k98.C w A3 x.f3.length x.f3:=by
  obtain⟨_,_,rfl,rfl,⟨_,_,rfl,rfl,⟨_,_,rfl,rfl,⟨A3,c3,rfl,l3,g3⟩⟩⟩⟩:=h;exact⟨A3,c3,rfl,l3,g3⟩
structure S32 where
  f0:Int
  f1:(List Int)
def k32 :Kd S32:=Kd.iso (Kd.pair (Kd.int .i64) (Kd.slice 5 (Kd.int .u8))) (fun x:S32=>(x.f0,x.f1))
theorem k32_open {w:World}{x:S32}{cs:List Value}(h:k32.K w x cs):∃A1 c1,cs=[.int .i64 x.f0,.slice A1 x.f1.length c1]∧x.f1.length≤c1∧(Kd.int .u8).C w A1 x.f1.length x.f1:=by
  obtain⟨_,_,rfl,rfl,⟨A1,c1,rfl,l1,g1⟩⟩:=h;exact⟨A1,c1,rfl,l1,g1⟩
theorem Zq3_0 {p:Prop}(h:p:=by repeat (first|exact(Kd.C_below HR0_1.out TB)|(with_reducible refine Kd.C_alloc ?_ _)|(with_reducible refine Kd.C_drewN ?_ _)|(with_reducible refine Kd.C_drew ?_))):p:=h
theorem Zq3_1 {p:Prop}(h:p:=by repeat (first|exact(Kd.C_below HR103_2.out TB)|(with_reducible refine Kd.C_alloc ?_ _)|(with_reducible refine Kd.C_drewN ?_ _)|(with_reducible refine Kd.C_drew ?_))):p:=h
theorem Zq3_2 {p:Prop}(h:p:=by repeat (first|exact(Kd.C_below HR0_2.out TB)|(with_reducible refine Kd.C_alloc ?_ _)|(with_reducible refine Kd.C_drewN ?_ _)|(with_reducible refine Kd.C_drew ?_))):p:=h
theorem Zq3_3 {p:Prop}(h:p:=by repeat (first|exact(Kd.C_below HR0_0.out TB)|(with_reducible refine Kd.C_alloc ?_ _)|(with_reducible refine Kd.C_drewN ?_ _)|(with_reducible refine Kd.C_drew ?_))):p:=h
theorem Zq3_4 {p:Prop}(h:p:=by repeat (first|exact(Kd.C_below HR0_5.out TB)|(with_reducible refine Kd.C_alloc ?_ _)|(with_reducible refine Kd.C_drewN ?_ _)|(with_reducible refine Kd.C_drew ?_))):p:=h
theorem Zq3_5 {p:Prop}(h:p:=by repeat (first|exact(Kd.C_below HR0_3.out TB)|(with_reducible refine Kd.C_alloc ?_ _)|(with_reducible refine Kd.C_drewN ?_ _)|(with_reducible refine Kd.C_drew ?_))):p:=h
def laws_szByteS.f (a:List Int)(b:Int):Option (Int):=if (wrap64 (b - (a.length:Int)))<0 then (some (-1)) else (some (wrap64 (b - (a.length:Int))))
theorem laws_szByteS.calls {A0:Option Addr}{c0:Nat}{l0:List Int}{a1:Int}{r:Int}{w:World}(hr0:Kd.C (Kd.int .u8) w A0 l0.length l0)(hc0:l0.length≤c0)(h:laws_szByteS.f l0 a1=some r):
    Calls Tryz.prog 22 #[.slice A0 l0.length c0,.int .i64 a1] w fun e w'=>e=.returned (.int .i64 r)∧Drawn0 w w':=by
  have HR0:=aM hr0
  have HC0:=aM hc0
  clear hr0 hc0
  have H:=h
  clear h
  unfold laws_szByteS.f at H
  by_cases c3:(wrap64 (a1 - (l0.length:Int)))<0
  · rw[if_pos c3] at H
    have c3b0:decide ((wrap64 (a1 - (l0.length:Int)))<0)=true:=decide_eq_true c3
    clear c3
    obtain rfl:=o_I H
    go_enter Tryz.func22,Tryz.ntmps22
    go_wp2
    go_ret
    exact⟨by first|rfl|(simp;done)|(simp [*];done),TD⟩
  · rw[if_neg c3] at H
    have c3b0:decide ((wrap64 (a1 - (l0.length:Int)))<0)=false:=decide_eq_false c3
    clear c3
    obtain rfl:=o_I H
    go_enter Tryz.func22,Tryz.ntmps22
    go_wp2
    go_ret
    exact⟨by first|rfl|(simp;done)|(simp [*];done),TD⟩
def laws_szPut.f (c:Int)(d:Int)(b:List Int)(e:Int)(f:Int)(g:Int)(h:Int):Option (Int):=(laws_szByteS.f b h).bind fun a=>(if a<0 then (some (-1)) else (some a))
theorem laws_szPut.calls {a0_0:Int}{a0_1:Int}{A0_2:Option Addr}{c0_2:Nat}{l0_2:List Int}{a0_3:Int}{a0_4:Int}{a0_5:Int}{a1:Int}{r:Int}{w:World}(hr0_2:Kd.C (Kd.int .u8) w A0_2 l0_2.length l0_2)(hc0_2:l0_2.length≤c0_2)(h:laws_szPut.f a0_0 a0_1 l0_2 a0_3 a0_4 a0_5 a1=some r):
    Calls Tryz.prog 50 #[.agg #[.int .i64 a0_0,.int .i64 a0_1,.slice A0_2 l0_2.length c0_2,.int .i64 a0_3,.int .i64 a0_4,.int .i64 a0_5],.int .i64 a1] w fun e w'=>e=.returned (.int .i64 r)∧Below w.heap.size w w':=by
  have hu79:=Tryz.underlying79
  have HR0_2:=aM hr0_2
  have HC0_2:=aM hc0_2
  clear hr0_2 hc0_2
  have HB:=aM (Below.refl w.heap.size w)
  have H:=h
  clear h
  unfold laws_szPut.f at H
  replace H:=bE H
  obtain⟨t102,A3,H⟩:=H
  go_enter Tryz.func50,Tryz.ntmps50
  go_wp2_with (first|(refine g_D 2 ?_;refine gBx 2 #[.int .i64 a0_0,.int .i64 a0_1,.slice A0_2 l0_2.length c0_2,.int .i64 a0_3,.int .i64 a0_4,.int .i64 a0_5] 79 ?_;intro gb101 hg w4 hbox hb;have BK101:=aM (hbox);have GW101:=gW HB hg;have GE101:=gW HB hg;replace HB:=bS HB hb;clear hb hbox hg;obtain⟨hcz5_0,hcz5_1,hcz5_2,hcz5_3,hcz5_4,hcz5_5⟩:=cz6 BK101.out;obtain⟨hfz5_0,hfz5_1,hfz5_2,hfz5_3,hfz5_4,hfz5_5⟩:=fz6 BK101.out)|(refine g_C 22 ?_;refine g_D 8 ?_;generalize hG_:wpList _ _ _ _ _ _=G_))
  subst hG_
  by_cases c6:t102<0
  · rw[if_pos c6] at H
    have c6b0:decide (t102<0)=true:=decide_eq_true c6
    clear c6
    obtain rfl:=o_I H
    go_wp2_with (first|(refine g_C 22 ?_;refine gL (some 8) Tryz.func22 #[.slice A0_2 l0_2.length c0_2,.int .i64 a1] ?_;(with_reducible refine(laws_szByteS.calls ?side1 ?side2 A3.out).mono ?_);(case side1=>exact Zq3_2);(case side2=>exact HC0_2.out);rintro e w' ⟨rfl,⟨nd,rfl⟩⟩;refine⟨_,rfl,?_⟩))
    go_ret
    exact⟨TE,TB⟩
  · rw[if_neg c6] at H
    have c6b0:decide (t102<0)=false:=decide_eq_false c6
    clear c6
    obtain rfl:=o_I H
    go_wp2_with (first|(refine g_C 22 ?_;refine gL (some 8) Tryz.func22 #[.slice A0_2 l0_2.length c0_2,.int .i64 a1] ?_;(with_reducible refine(laws_szByteS.calls ?side1 ?side2 A3.out).mono ?_);(case side1=>exact Zq3_2);(case side2=>exact HC0_2.out);rintro e w' ⟨rfl,⟨nd,rfl⟩⟩;refine⟨_,rfl,?_⟩))
    go_ret
    exact⟨TE,TB⟩
def laws_szPutS.l0 :Nat→List (S79)→Int→Int→Option (Int)
  |0,_,_,_=>none
  |k+1,b,d,a=>if a<(b.length:Int) then (if 0≤a then ((laws_szPut.f ((rd_T79 b a).f0) ((rd_T79 b a).f1) ((rd_T79 b a).f2) ((rd_T79 b a).f3.f0) ((rd_T79 b a).f3.f1) ((rd_T79 b a).f3.f2) d).bind fun c=>(if c<0 then (some (-1)) else (laws_szPutS.l0 k b c (wrap64 (a+1))))) else (none)) else (some d)
def laws_szPutS.f (k:Nat)(a:List (S79))(b:Int):Option (Int):=if (wrap64 (b - (a.length:Int)))<0 then (some (-1)) else (laws_szPutS.l0 k a (wrap64 (b - (a.length:Int))) 0)
theorem laws_szPutS.mono_l :∀k,(∀a b c,LeO (laws_szPutS.l0 k a b c) (laws_szPutS.l0 (k+1) a b c))
  |0=>fun _ _ _ r h=>by simp [laws_szPutS.l0] at h
  | k+1=>by
    have ih0:=laws_szPutS.mono_l k
    · intro y0 y1 y2
      unfold laws_szPutS.l0
      exact LM
theorem laws_szPutS.mono :∀a b k,LeO (laws_szPutS.f k a b) (laws_szPutS.f (k+1) a b):=by
  intro a0 a1 k;have ih0:=laws_szPutS.mono_l k;unfold laws_szPutS.f;exact LM
theorem laws_szPutS.calls {k:Nat}{A0:Option Addr}{c0:Nat}{l0:List (S79)}{a1:Int}{r:Int}{w:World}(hr0:Kd.C k79 w A0 l0.length l0)(hc0:l0.length≤c0)(h:laws_szPutS.f k l0 a1=some r):
    Calls Tryz.prog 23 #[.slice A0 l0.length c0,.int .i64 a1] w fun e w'=>e=.returned (.int .i64 r)∧Below w.heap.size w w':=by
  have hu79:=Tryz.underlying79
  have HR0:=aM hr0
  have HC0:=aM hc0
  clear hr0 hc0
  have HB:=aM (Below.refl w.heap.size w)
  have H:=h
  clear h
  unfold laws_szPutS.f at H
  by_cases c3:(wrap64 (a1 - (l0.length:Int)))<0
  · rw[if_pos c3] at H
    have c3b0:decide ((wrap64 (a1 - (l0.length:Int)))<0)=true:=decide_eq_true c3
    clear c3
    obtain rfl:=o_I H
    go_enter Tryz.func23,Tryz.ntmps23
    go_wp2
    go_ret
    exact⟨TE,TB⟩
  · rw[if_neg c3] at H
    have c3b0:decide ((wrap64 (a1 - (l0.length:Int)))<0)=false:=decide_eq_false c3
    clear c3
    have H':=aM H
    clear H
    go_enter Tryz.func23,Tryz.ntmps23
    go_wp2
    go_loopg [1,5] k (fun kq v1 v5 w'=>∃(x1_1:Int) (x5_1:Int),v1=.int .i64 x1_1∧v5=.int .i64 x5_1∧Aside0 (laws_szPutS.l0 kq l0 x1_1 x5_1=some r)∧Aside0 (kq≤k)∧Aside0 (Below w.heap.size w w'))
    case atStart=>exact⟨(wrap64 (a1 - (l0.length:Int))),(0),TF,TF,H',⟨Nat.le_refl _⟩,⟨TB⟩⟩
    case round=>
      clear H'
      try clear c2
      try clear p2
      try clear c3
      try clear c3b0
      obtain⟨x1_1,x5_1,rfl,rfl,HA,HK1,HB⟩:=hrel
      cases gk with
      |zero=>exact absurd HA.out (by simp [laws_szPutS.l0])
      | succ k1=>
        have H:=HA.out
        clear HA
        simp only[laws_szPutS.l0] at H
        by_cases c4:x5_1<(l0.length:Int)
        · rw[if_pos c4] at H
          have c4b0:decide (x5_1<(l0.length:Int))=true:=decide_eq_true c4
          clear c4
          replace H:=ifN H
          obtain⟨c5,H⟩:=H
          have c5b0:decide (0≤x5_1)=true:=decide_eq_true c5
          clear c5
          replace H:=bE H
          obtain⟨t104,A6,H⟩:=H
          have p103:0≤(x5_1:Int):=DT
          have q103:x5_1<(l0.length:Int):=DT
          obtain⟨ad103,A103_2,c103_2,e103,hx103_0,hx103_1,hx103_2,hx103_3,hx103_4,hx103_5,hl103_2,hi103_2⟩:=at_T79 HR0.out x5_1 p103 q103
          cases e103
          replace hx103_0:=(HB.out.cell (World.block_lt_of_cell? w _ hx103_0)).trans hx103_0
          replace hx103_1:=(HB.out.cell (World.block_lt_of_cell? w _ hx103_1)).trans hx103_1
          replace hx103_2:=(HB.out.cell (World.block_lt_of_cell? w _ hx103_2)).trans hx103_2
          replace hx103_3:=(HB.out.cell (World.block_lt_of_cell? w _ hx103_3)).trans hx103_3
          replace hx103_4:=(HB.out.cell (World.block_lt_of_cell? w _ hx103_4)).trans hx103_4
          replace hx103_5:=(HB.out.cell (World.block_lt_of_cell? w _ hx103_5)).trans hx103_5
          have HR103_2:=aM hi103_2
          have HC103_2:=aM hl103_2
          clear hi103_2 hl103_2
          replace p103:=eq_true p103
          replace q103:=eq_true q103
          go_wp2_with (first|(refine g_C 50 ?_;refine g_D 23 ?_;generalize hG_:wpList _ _ _ _ _ _=G_))
          subst hG_
          by_cases c7:t104<0
          · rw[if_pos c7] at H
            have c7b0:decide (t104<0)=true:=decide_eq_true c7
            clear c7
            obtain rfl:=o_I H
            go_wp2_with (first|(refine g_C 50 ?_;refine gL (some 23) Tryz.func50 #[.agg #[.int .i64 ((rd_T79 l0 x5_1).f0),.int .i64 ((rd_T79 l0 x5_1).f1),.slice A103_2 ((rd_T79 l0 x5_1).f2).length c103_2,.int .i64 ((rd_T79 l0 x5_1).f3.f0),.int .i64 ((rd_T79 l0 x5_1).f3.f1),.int .i64 ((rd_T79 l0 x5_1).f3.f2)],.int .i64 x1_1] ?_;(with_reducible refine(laws_szPut.calls ?side1 ?side2 A6.out).mono ?_);(case side1=>exact Zq3_1);(case side2=>exact HC103_2.out);rintro e w8 ⟨rfl,hb⟩;refine⟨_,rfl,?_⟩;replace HB:=bS HB hb;clear hb))
            go_ret
            exact⟨TE,TB⟩
          · rw[if_neg c7] at H
            have c7b0:decide (t104<0)=false:=decide_eq_false c7
            clear c7
            have H':=aM H
            clear H
            go_wp2_with (first|(refine g_C 50 ?_;refine gL (some 23) Tryz.func50 #[.agg #[.int .i64 ((rd_T79 l0 x5_1).f0),.int .i64 ((rd_T79 l0 x5_1).f1),.slice A103_2 ((rd_T79 l0 x5_1).f2).length c103_2,.int .i64 ((rd_T79 l0 x5_1).f3.f0),.int .i64 ((rd_T79 l0 x5_1).f3.f1),.int .i64 ((rd_T79 l0 x5_1).f3.f2)],.int .i64 x1_1] ?_;(with_reducible refine(laws_szPut.calls ?side1 ?side2 A6.out).mono ?_);(case side1=>exact Zq3_1);(case side2=>exact HC103_2.out);rintro e w9 ⟨rfl,hb⟩;refine⟨_,rfl,?_⟩;replace HB:=bS HB hb;clear hb))
            go_roundg k1
            case measure=>have:=HK1.out;omega
            case rel=>exact⟨(t104),(wrap64 (x5_1+1)),TF,TF,H',⟨by have:=HK1.out;omega⟩,⟨TB⟩⟩
        · rw[if_neg c4] at H
          have c4b0:decide (x5_1<(l0.length:Int))=false:=decide_eq_false c4
          clear c4
          obtain rfl:=o_I H
          go_wp2
          go_ret
          exact⟨TE,TB⟩
def laws_szDisk.f (k:Nat)(d:List Int)(e:List Int)(g:Int)(h:Int)(i:Int)(f:List (S79))(j:Int):Option (Int):=(laws_szByteS.f d j).bind fun a=>(if a<0 then (some (-1)) else ((laws_szByteS.f e a).bind fun b=>(if b<0 then (some (-1)) else ((laws_szPutS.f k f b).bind fun c=>(if c<0 then (some (-1)) else (some c))))))
theorem laws_szDisk.mono :∀a b c d e f g k,LeO (laws_szDisk.f k a b c d e f g) (laws_szDisk.f (k+1) a b c d e f g):=by
  intro a0 a1 a2 a3 a4 a5 a6 k;have m0_:=@laws_szPutS.mono;unfold laws_szDisk.f;exact LM
theorem laws_szDisk.calls {k:Nat}{A0_0:Option Addr}{c0_0:Nat}{l0_0:List Int}{A0_1:Option Addr}{c0_1:Nat}{l0_1:List Int}{a0_2:Int}{a0_3:Int}{a0_4:Int}{A0_5:Option Addr}{c0_5:Nat}{l0_5:List (S79)}{a1:Int}{r:Int}{w:World}(hr0_0:Kd.C (Kd.int .u8) w A0_0 l0_0.length l0_0)(hc0_0:l0_0.length≤c0_0)(hr0_1:Kd.C (Kd.int .u8) w A0_1 l0_1.length l0_1)(hc0_1:l0_1.length≤c0_1)(hr0_5:Kd.C k79 w A0_5 l0_5.length l0_5)(hc0_5:l0_5.length≤c0_5)(h:laws_szDisk.f k l0_0 l0_1 a0_2 a0_3 a0_4 l0_5 a1=some r):
    Calls Tryz.prog 5 #[.agg #[.slice A0_0 l0_0.length c0_0,.slice A0_1 l0_1.length c0_1,.int .i64 a0_2,.int .i64 a0_3,.int .i64 a0_4,.slice A0_5 l0_5.length c0_5],.int .i64 a1] w fun e w'=>e=.returned (.int .i64 r)∧Below w.heap.size w w':=by
  have hu27:=Tryz.underlying27
  have HR0_0:=aM hr0_0
  have HC0_0:=aM hc0_0
  clear hr0_0 hc0_0
  have HR0_1:=aM hr0_1
  have HC0_1:=aM hc0_1
  clear hr0_1 hc0_1
  have HR0_5:=aM hr0_5
  have HC0_5:=aM hc0_5
  clear hr0_5 hc0_5
  have HB:=aM (Below.refl w.heap.size w)
  have H:=h
  clear h
  unfold laws_szDisk.f at H
  replace H:=bE H
  obtain⟨t106,A3,H⟩:=H
  go_enter Tryz.func5,Tryz.ntmps5
  go_wp2_with (first|(refine g_D 2 ?_;refine gBx 2 #[.slice A0_0 l0_0.length c0_0,.slice A0_1 l0_1.length c0_1,.int .i64 a0_2,.int .i64 a0_3,.int .i64 a0_4,.slice A0_5 l0_5.length c0_5] 27 ?_;intro gb105 hg w4 hbox hb;have BK105:=aM (hbox);have GW105:=gW HB hg;have GE105:=gW HB hg;replace HB:=bS HB hb;clear hb hbox hg;obtain⟨hcz5_0,hcz5_1,hcz5_2,hcz5_3,hcz5_4,hcz5_5⟩:=cz6 BK105.out;obtain⟨hfz5_0,hfz5_1,hfz5_2,hfz5_3,hfz5_4,hfz5_5⟩:=fz6 BK105.out)|(refine g_C 22 ?_;refine g_D 8 ?_;generalize hG_:wpList _ _ _ _ _ _=G_))
  subst hG_
  by_cases c6:t106<0
  · rw[if_pos c6] at H
    have c6b0:decide (t106<0)=true:=decide_eq_true c6
    clear c6
    obtain rfl:=o_I H
    go_wp2_with (first|(refine g_C 22 ?_;refine gL (some 8) Tryz.func22 #[.slice A0_0 l0_0.length c0_0,.int .i64 a1] ?_;(with_reducible refine(laws_szByteS.calls ?side1 ?side2 A3.out).mono ?_);(case side1=>exact Zq3_3);(case side2=>exact HC0_0.out);rintro e w' ⟨rfl,⟨nd,rfl⟩⟩;refine⟨_,rfl,?_⟩))
    go_ret
    exact⟨TE,TB⟩
  · rw[if_neg c6] at H
    have c6b0:decide (t106<0)=false:=decide_eq_false c6
    clear c6
    replace H:=bE H
    obtain⟨t107,A7,H⟩:=H
    go_wp2_with (first|(refine g_C 22 ?_;refine gL (some 8) Tryz.func22 #[.slice A0_0 l0_0.length c0_0,.int .i64 a1] ?_;(with_reducible refine(laws_szByteS.calls ?side1 ?side2 A3.out).mono ?_);(case side1=>exact Zq3_3);(case side2=>exact HC0_0.out);rintro e w' ⟨rfl,⟨nd,rfl⟩⟩;refine⟨_,rfl,?_⟩;obtain⟨hcz8_0,hcz8_1,hcz8_2,hcz8_3,hcz8_4,hcz8_5⟩:=cz6 BK105.out;obtain⟨hfz8_0,hfz8_1,hfz8_2,hfz8_3,hfz8_4,hfz8_5⟩:=fz6 BK105.out)|(refine g_C 22 ?_;refine g_D 14 ?_;generalize hG_:wpList _ _ _ _ _ _=G_))
    subst hG_
    by_cases c9:t107<0
    · rw[if_pos c9] at H
      have c9b0:decide (t107<0)=true:=decide_eq_true c9
      clear c9
      obtain rfl:=o_I H
      go_wp2_with (first|(refine g_C 22 ?_;refine gL (some 14) Tryz.func22 #[.slice A0_1 l0_1.length c0_1,.int .i64 t106] ?_;(with_reducible refine(laws_szByteS.calls ?side1 ?side2 A7.out).mono ?_);(case side1=>exact Zq3_0);(case side2=>exact HC0_1.out);rintro e w' ⟨rfl,⟨nd,rfl⟩⟩;refine⟨_,rfl,?_⟩))
      go_ret
      exact⟨TE,TB⟩
    · rw[if_neg c9] at H
      have c9b0:decide (t107<0)=false:=decide_eq_false c9
      clear c9
      replace H:=bE H
      obtain⟨t108,A10,H⟩:=H
      go_wp2_with (first|(refine g_C 22 ?_;refine gL (some 14) Tryz.func22 #[.slice A0_1 l0_1.length c0_1,.int .i64 t106] ?_;(with_reducible refine(laws_szByteS.calls ?side1 ?side2 A7.out).mono ?_);(case side1=>exact Zq3_0);(case side2=>exact HC0_1.out);rintro e w' ⟨rfl,⟨nd,rfl⟩⟩;refine⟨_,rfl,?_⟩;obtain⟨hcz11_0,hcz11_1,hcz11_2,hcz11_3,hcz11_4,hcz11_5⟩:=cz6 BK105.out;obtain⟨hfz11_0,hfz11_1,hfz11_2,hfz11_3,hfz11_4,hfz11_5⟩:=fz6 BK105.out)|(refine g_C 23 ?_;refine g_D 20 ?_;generalize hG_:wpList _ _ _ _ _ _=G_))
      subst hG_
      by_cases c12:t108<0
      · rw[if_pos c12] at H
        have c12b0:decide (t108<0)=true:=decide_eq_true c12
        clear c12
        obtain rfl:=o_I H
        go_wp2_with (first|(refine g_C 23 ?_;refine gL (some 20) Tryz.func23 #[.slice A0_5 l0_5.length c0_5,.int .i64 t107] ?_;(with_reducible refine(laws_szPutS.calls ?side1 ?side2 A10.out).mono ?_);(case side1=>exact Zq3_4);(case side2=>exact HC0_5.out);rintro e w13 ⟨rfl,hb⟩;refine⟨_,rfl,?_⟩;replace BK105:=mB BK105 hb;replace HB:=bS HB hb;clear hb))
        go_ret
        exact⟨TE,TB⟩
      · rw[if_neg c12] at H
        have c12b0:decide (t108<0)=false:=decide_eq_false c12
        clear c12
        obtain rfl:=o_I H
        go_wp2_with (first|(refine g_C 23 ?_;refine gL (some 20) Tryz.func23 #[.slice A0_5 l0_5.length c0_5,.int .i64 t107] ?_;(with_reducible refine(laws_szPutS.calls ?side1 ?side2 A10.out).mono ?_);(case side1=>exact Zq3_4);(case side2=>exact HC0_5.out);rintro e w14 ⟨rfl,hb⟩;refine⟨_,rfl,?_⟩;replace BK105:=mB BK105 hb;replace HB:=bS HB hb;clear hb))
        go_ret
        exact⟨TE,TB⟩
def laws_szSumS.f (a:List (S98))(b:Int):Option (Int):=if (wrap64 (b - (a.length:Int)))<0 then (some (-1)) else (some (wrap64 (b - (a.length:Int))))
theorem laws_szSumS.calls {A0:Option Addr}{c0:Nat}{l0:List (S98)}{a1:Int}{r:Int}{w:World}(hr0:Kd.C k98 w A0 l0.length l0)(hc0:l0.length≤c0)(h:laws_szSumS.f l0 a1=some r):
    Calls Tryz.prog 24 #[.slice A0 l0.length c0,.int .i64 a1] w fun e w'=>e=.returned (.int .i64 r)∧Drawn0 w w':=by
  have HR0:=aM hr0
  have HC0:=aM hc0
  clear hr0 hc0
  have H:=h
  clear h
  unfold laws_szSumS.f at H
  by_cases c3:(wrap64 (a1 - (l0.length:Int)))<0
  · rw[if_pos c3] at H
    have c3b0:decide ((wrap64 (a1 - (l0.length:Int)))<0)=true:=decide_eq_true c3
    clear c3
    obtain rfl:=o_I H
    go_enter Tryz.func24,Tryz.ntmps24
    go_wp2
    go_ret
    exact⟨by first|rfl|(simp;done)|(simp [*];done),TD⟩
  · rw[if_neg c3] at H
    have c3b0:decide ((wrap64 (a1 - (l0.length:Int)))<0)=false:=decide_eq_false c3
    clear c3
    obtain rfl:=o_I H
    go_enter Tryz.func24,Tryz.ntmps24
    go_wp2
    go_ret
    exact⟨by first|rfl|(simp;done)|(simp [*];done),TD⟩
def laws_szManifest.f (c:Int)(d:Int)(e:Int)(b:List (S98))(f:Int):Option (Int):=(laws_szSumS.f b f).bind fun a=>(if a<0 then (some (-1)) else (some a))
theorem laws_szManifest.calls {a0_0:Int}{a0_1:Int}{a0_2:Int}{A0_3:Option Addr}{c0_3:Nat}{l0_3:List (S98)}{a1:Int}{r:Int}{w:World}(hr0_3:Kd.C k98 w A0_3 l0_3.length l0_3)(hc0_3:l0_3.length≤c0_3)(h:laws_szManifest.f a0_0 a0_1 a0_2 l0_3 a1=some r):
    Calls Tryz.prog 6 #[.agg #[.int .i64 a0_0,.int .i64 a0_1,.int .i64 a0_2,.slice A0_3 l0_3.length c0_3],.int .i64 a1] w fun e w'=>e=.returned (.int .i64 r)∧Below w.heap.size w w':=by
  have hu30:=Tryz.underlying30
  have HR0_3:=aM hr0_3
  have HC0_3:=aM hc0_3
  clear hr0_3 hc0_3
  have HB:=aM (Below.refl w.heap.size w)
  have H:=h
  clear h
  unfold laws_szManifest.f at H
  replace H:=bE H
  obtain⟨t110,A3,H⟩:=H
  go_enter Tryz.func6,Tryz.ntmps6
  go_wp2_with (first|(refine g_D 2 ?_;refine gBx 2 #[.int .i64 a0_0,.int .i64 a0_1,.int .i64 a0_2,.slice A0_3 l0_3.length c0_3] 30 ?_;intro gb109 hg w4 hbox hb;have BK109:=aM (hbox);have GW109:=gW HB hg;have GE109:=gW HB hg;replace HB:=bS HB hb;clear hb hbox hg;obtain⟨hcz5_0,hcz5_1,hcz5_2,hcz5_3⟩:=cz4 BK109.out;obtain⟨hfz5_0,hfz5_1,hfz5_2,hfz5_3⟩:=fz4 BK109.out)|(refine g_C 24 ?_;refine g_D 8 ?_;generalize hG_:wpList _ _ _ _ _ _=G_))
  subst hG_
  by_cases c6:t110<0
  · rw[if_pos c6] at H
    have c6b0:decide (t110<0)=true:=decide_eq_true c6
    clear c6
    obtain rfl:=o_I H
    go_wp2_with (first|(refine g_C 24 ?_;refine gL (some 8) Tryz.func24 #[.slice A0_3 l0_3.length c0_3,.int .i64 a1] ?_;(with_reducible refine(laws_szSumS.calls ?side1 ?side2 A3.out).mono ?_);(case side1=>exact Zq3_5);(case side2=>exact HC0_3.out);rintro e w' ⟨rfl,⟨nd,rfl⟩⟩;refine⟨_,rfl,?_⟩))
    go_ret
    exact⟨TE,TB⟩
  · rw[if_neg c6] at H
    have c6b0:decide (t110<0)=false:=decide_eq_false c6
    clear c6
    obtain rfl:=o_I H
    go_wp2_with (first|(refine g_C 24 ?_;refine gL (some 8) Tryz.func24 #[.slice A0_3 l0_3.length c0_3,.int .i64 a1] ?_;(with_reducible refine(laws_szSumS.calls ?side1 ?side2 A3.out).mono ?_);(case side1=>exact Zq3_5);(case side2=>exact HC0_3.out);rintro e w' ⟨rfl,⟨nd,rfl⟩⟩;refine⟨_,rfl,?_⟩))
    go_ret
    exact⟨TE,TB⟩
def laws_szBuild.f (c:Int)(b:List Int)(d:Int):Option (Int):=(laws_szByteS.f b d).bind fun a=>(if a<0 then (some (-1)) else (some a))
theorem laws_szBuild.calls {a0_0:Int}{A0_1:Option Addr}{c0_1:Nat}{l0_1:List Int}{a1:Int}{r:Int}{w:World}(hr0_1:Kd.C (Kd.int .u8) w A0_1 l0_1.length l0_1)(hc0_1:l0_1.length≤c0_1)(h:laws_szBuild.f a0_0 l0_1 a1=some r):
    Calls Tryz.prog 7 #[.agg #[.int .i64 a0_0,.slice A0_1 l0_1.length c0_1],.int .i64 a1] w fun e w'=>e=.returned (.int .i64 r)∧Below w.heap.size w w':=by
  have hu32:=Tryz.underlying32
  have HR0_1:=aM hr0_1
  have HC0_1:=aM hc0_1
  clear hr0_1 hc0_1
  have HB:=aM (Below.refl w.heap.size w)
  have H:=h
  clear h
  unfold laws_szBuild.f at H
  replace H:=bE H
  obtain⟨t112,A3,H⟩:=H
  go_enter Tryz.func7,Tryz.ntmps7
  go_wp2_with (first|(refine g_D 2 ?_;refine gBx 2 #[.int .i64 a0_0,.slice A0_1 l0_1.length c0_1] 32 ?_;intro gb111 hg w4 hbox hb;have BK111:=aM (hbox);have GW111:=gW HB hg;have GE111:=gW HB hg;replace HB:=bS HB hb;clear hb hbox hg;obtain⟨hcz5_0,hcz5_1⟩:=cz2 BK111.out;obtain⟨hfz5_0,hfz5_1⟩:=fz2 BK111.out)|(refine g_C 22 ?_;refine g_D 8 ?_;generalize hG_:wpList _ _ _ _ _ _=G_))
  subst hG_
  by_cases c6:t112<0
  · rw[if_pos c6] at H
    have c6b0:decide (t112<0)=true:=decide_eq_true c6
    clear c6
    obtain rfl:=o_I H
    go_wp2_with (first|(refine g_C 22 ?_;refine gL (some 8) Tryz.func22 #[.slice A0_1 l0_1.length c0_1,.int .i64 a1] ?_;(with_reducible refine(laws_szByteS.calls ?side1 ?side2 A3.out).mono ?_);(case side1=>exact Zq3_0);(case side2=>exact HC0_1.out);rintro e w' ⟨rfl,⟨nd,rfl⟩⟩;refine⟨_,rfl,?_⟩))
    go_ret
    exact⟨TE,TB⟩
  · rw[if_neg c6] at H
    have c6b0:decide (t112<0)=false:=decide_eq_false c6
    clear c6
    obtain rfl:=o_I H
    go_wp2_with (first|(refine g_C 22 ?_;refine gL (some 8) Tryz.func22 #[.slice A0_1 l0_1.length c0_1,.int .i64 a1] ?_;(with_reducible refine(laws_szByteS.calls ?side1 ?side2 A3.out).mono ?_);(case side1=>exact Zq3_0);(case side2=>exact HC0_1.out);rintro e w' ⟨rfl,⟨nd,rfl⟩⟩;refine⟨_,rfl,?_⟩))
    go_ret
    exact⟨TE,TB⟩
def spec_l1In.f (a:Int)(b:Int)(c:Int):Option (Bool):=if a≥b then (some (decide (a≤c))) else (some false)
theorem spec_l1In.calls {a0:Int}{a1:Int}{a2:Int}{r:Bool}{w:World}(h:spec_l1In.f a0 a1 a2=some r):
    Calls Tryz.prog 88 #[.int .i64 a0,.int .i64 a1,.int .i64 a2] w fun e w'=>e=.returned (.bool r)∧Drawn0 w w':=by
  have H:=h
  clear h
  unfold spec_l1In.f at H
  by_cases c4:a0≥a1
  · rw[if_pos c4] at H
    have c4b0:decide (a1≤a0)=true:=decide_eq_true c4
    clear c4
    obtain rfl:=o_I H
    go_enter Tryz.func88,Tryz.ntmps88
    go_wp2
    go_ret
    exact⟨by first|rfl|(simp;done)|(simp [*];done),TD⟩
  · rw[if_neg c4] at H
    have c4b0:decide (a1≤a0)=false:=decide_eq_false c4
    clear c4
    obtain rfl:=o_I H
    go_enter Tryz.func88,Tryz.ntmps88
    go_wp2
    go_ret
    exact⟨by first|rfl|(simp;done)|(simp [*];done),TD⟩
def spec_SizeOk.f (c:Int)(d:Int):Option (Bool):=(spec_l1In.f c 2 6).bind fun a=>(if a=true then ((spec_l1In.f d 0 (wrap64 (c * 40))).bind fun b=>(some b)) else (some false))
theorem spec_SizeOk.calls {a0:Int}{a1:Int}{r:Bool}{w:World}(h:spec_SizeOk.f a0 a1=some r):
    Calls Tryz.prog 54 #[.int .i64 a0,.int .i64 a1] w fun e w'=>e=.returned (.bool r)∧Drawn0 w w':=by
  have H:=h
  clear h
  unfold spec_SizeOk.f at H
  replace H:=bE H
  obtain⟨t113,A3,H⟩:=H
  by_cases c4:t113=true
  · subst c4
    replace H:=ifT H
    replace H:=bE H
    obtain⟨t114,A5,H⟩:=H
    obtain rfl:=o_I H
    go_enter Tryz.func54,Tryz.ntmps54
    go_wp2_with (first|(refine g_C 88 ?_;refine gL (some 6) Tryz.func88 #[.int .i64 a0,.int .i64 2,.int .i64 6] ?_;(with_reducible refine(spec_l1In.calls A3.out).mono ?_);rintro e w' ⟨rfl,⟨nd,rfl⟩⟩;refine⟨_,rfl,?_⟩)|(go_at_call 88;(with_reducible refine(spec_l1In.calls A5.out).mono ?_);rintro e w' ⟨rfl,⟨nd,rfl⟩⟩))
    go_ret
    exact⟨by first|rfl|(simp;done)|(simp [*];done),TD⟩
  · replace c4:=b_F c4
    subst c4
    replace H:=ifF H
    obtain rfl:=o_I H
    go_enter Tryz.func54,Tryz.ntmps54
    go_wp2_with (first|(refine g_C 88 ?_;refine gL (some 6) Tryz.func88 #[.int .i64 a0,.int .i64 2,.int .i64 6] ?_;(with_reducible refine(spec_l1In.calls A3.out).mono ?_);rintro e w' ⟨rfl,⟨nd,rfl⟩⟩;refine⟨_,rfl,?_⟩))
    go_ret
    exact⟨by first|rfl|(simp;done)|(simp [*];done),TD⟩
def spec_CeilDiv.f (d:Int)(a:Int):Option (Int):=(spec_l1In.f d 0 1000000000000).bind fun b=>(if b=true then ((spec_l1In.f a 1 1000000000000).bind fun c=>(if c=true then (if a=0 then (none) else (some (wrap64 (Int.tdiv (wrap64 ((wrap64 (d+a)) - 1)) a)))) else (some 0))) else (some 0))
theorem spec_CeilDiv.calls {a0:Int}{a1:Int}{r:Int}{w:World}(h:spec_CeilDiv.f a0 a1=some r):
    Calls Tryz.prog 89 #[.int .i64 a0,.int .i64 a1] w fun e w'=>e=.returned (.int .i64 r)∧Drawn0 w w':=by
  have H:=h
  clear h
  unfold spec_CeilDiv.f at H
  replace H:=bE H
  obtain⟨t115,A3,H⟩:=H
  by_cases c4:t115=true
  · subst c4
    replace H:=ifT H
    replace H:=bE H
    obtain⟨t116,A5,H⟩:=H
    by_cases c6:t116=true
    · subst c6
      replace H:=ifT H
      replace H:=ifM H
      obtain⟨c7,H⟩:=H
      have c7b0:(a1==0)=false:=beq_eq_false_iff_ne.mpr c7
      have c7b1:(a1 != 0)=true:=bne_iff_ne.mpr c7
      obtain rfl:=o_I H
      go_enter Tryz.func89,Tryz.ntmps89
      go_wp2_with (first|(refine g_C 88 ?_;refine gL (some 6) Tryz.func88 #[.int .i64 a0,.int .i64 0,.int .i64 1000000000000] ?_;(with_reducible refine(spec_l1In.calls A3.out).mono ?_);rintro e w' ⟨rfl,⟨nd,rfl⟩⟩;refine⟨_,rfl,?_⟩)|(go_at_call 88;(with_reducible refine(spec_l1In.calls A5.out).mono ?_);rintro e w' ⟨rfl,⟨nd,rfl⟩⟩))
      go_ret
      exact⟨by first|rfl|(simp;done)|(simp [*];done),TD⟩
    · replace c6:=b_F c6
      subst c6
      replace H:=ifF H
      obtain rfl:=o_I H
      go_enter Tryz.func89,Tryz.ntmps89
      go_wp2_with (first|(refine g_C 88 ?_;refine gL (some 6) Tryz.func88 #[.int .i64 a0,.int .i64 0,.int .i64 1000000000000] ?_;(with_reducible refine(spec_l1In.calls A3.out).mono ?_);rintro e w' ⟨rfl,⟨nd,rfl⟩⟩;refine⟨_,rfl,?_⟩)|(go_at_call 88;(with_reducible refine(spec_l1In.calls A5.out).mono ?_);rintro e w' ⟨rfl,⟨nd,rfl⟩⟩))
      go_ret
      exact⟨by first|rfl|(simp;done)|(simp [*];done),TD⟩
  · replace c4:=b_F c4
    subst c4
    replace H:=ifF H
    obtain rfl:=o_I H
    go_enter Tryz.func89,Tryz.ntmps89
    go_wp2_with (first|(refine g_C 88 ?_;refine gL (some 6) Tryz.func88 #[.int .i64 a0,.int .i64 0,.int .i64 1000000000000] ?_;(with_reducible refine(spec_l1In.calls A3.out).mono ?_);rintro e w' ⟨rfl,⟨nd,rfl⟩⟩;refine⟨_,rfl,?_⟩))
    go_ret
    exact⟨by first|rfl|(simp;done)|(simp [*];done),TD⟩
def spec_Blocks.f (c:Int)(d:Int):Option (Int):=(spec_SizeOk.f c d).bind fun a=>(if a=true then ((spec_CeilDiv.f d c).bind fun b=>(some b)) else (some 0))
theorem spec_Blocks.calls {a0:Int}{a1:Int}{r:Int}{w:World}(h:spec_Blocks.f a0 a1=some r):
    Calls Tryz.prog 55 #[.int .i64 a0,.int .i64 a1] w fun e w'=>e=.returned (.int .i64 r)∧Drawn0 w w':=by
  have H:=h
  clear h
  unfold spec_Blocks.f at H
  replace H:=bE H
  obtain⟨t117,A3,H⟩:=H
  by_cases c4:t117=true
  · subst c4
    replace H:=ifT H
    replace H:=bE H
    obtain⟨t118,A5,H⟩:=H
    obtain rfl:=o_I H
    go_enter Tryz.func55,Tryz.ntmps55
    go_wp2_with (first|(refine g_C 54 ?_;refine gL (some 7) Tryz.func54 #[.int .i64 a0,.int .i64 a1] ?_;(with_reducible refine(spec_SizeOk.calls A3.out).mono ?_);rintro e w' ⟨rfl,⟨nd,rfl⟩⟩;refine⟨_,rfl,?_⟩)|(refine g_C 89 ?_;refine gL (some 11) Tryz.func89 #[.int .i64 a1,.int .i64 a0] ?_;(with_reducible refine(spec_CeilDiv.calls A5.out).mono ?_);rintro e w' ⟨rfl,⟨nd,rfl⟩⟩;refine⟨_,rfl,?_⟩))
    go_ret
    exact⟨by first|rfl|(simp;done)|(simp [*];done),TD⟩
  · replace c4:=b_F c4
    subst c4
    replace H:=ifF H
    obtain rfl:=o_I H
    go_enter Tryz.func55,Tryz.ntmps55
    go_wp2_with (first|(refine g_C 54 ?_;refine gL (some 7) Tryz.func54 #[.int .i64 a0,.int .i64 a1] ?_;(with_reducible refine(spec_SizeOk.calls A3.out).mono ?_);rintro e w' ⟨rfl,⟨nd,rfl⟩⟩;refine⟨_,rfl,?_⟩))
    go_ret
    exact⟨by first|rfl|(simp;done)|(simp [*];done),TD⟩
def spec_Least.f (a:Int)(b:Int):Option (Int):=if b<a then (some b) else (some a)
theorem spec_Least.calls {a0:Int}{a1:Int}{r:Int}{w:World}(h:spec_Least.f a0 a1=some r):
  Calls Tryz.prog 90 #[.int .i64 a0,.int .i64 a1] w fun e w'=>e=.returned (.int .i64 r)∧Drawn0 w w':=by
 have H:=h;clear h;unfold spec_Least.f at H
 by_cases c3:a1<a0
 ·rw[if_pos c3] at H;have c3b0:decide (a1<a0)=true:=decide_eq_true c3;clear c3;obtain rfl:=o_I H;go_enter Tryz.func90,Tryz.ntmps90;go_wp2
  go_ret
  exact⟨by first|rfl|(simp;done)|(simp [*];done),TD⟩
 ·rw[if_neg c3] at H;have c3b0:decide (a1<a0)=false:=decide_eq_false c3;clear c3;obtain rfl:=o_I H;go_enter Tryz.func90,Tryz.ntmps90;go_wp2
  go_ret
  exact⟨by first|rfl|(simp;done)|(simp [*];done),TD⟩
def spec_SetOk.f (b:Int):Option (Bool):=(spec_l1In.f b 0 1099511627775).bind fun a=>(some a)
theorem spec_SetOk.calls {a0:Int}{r:Bool}{w:World}(h:spec_SetOk.f a0=some r):
    Calls Tryz.prog 79 #[.int .i64 a0] w fun e w'=>e=.returned (.bool r)∧Drawn0 w w':=by
  have H:=h
  clear h
  unfold spec_SetOk.f at H
  replace H:=bE H
  obtain⟨t156,A2,H⟩:=H
  obtain rfl:=o_I H
  go_enter Tryz.func79,Tryz.ntmps79
  go_wp2_with (first|(refine g_C 88 ?_;refine gL (some 4) Tryz.func88 #[.int .i64 a0,.int .i64 0,.int .i64 1099511627775] ?_;(with_reducible refine(spec_l1In.calls A2.out).mono ?_);rintro e w' ⟨rfl,⟨nd,rfl⟩⟩;refine⟨_,rfl,?_⟩))
  go_ret
  exact⟨by first|rfl|(simp;done)|(simp [*];done),TD⟩
def spec_Without.f (c:Int)(d:Int):Option (Int):=(spec_SetOk.f c).bind fun a=>(if a=true then ((spec_SetOk.f d).bind fun b=>(if b=true then (some (Go.bits .andNot .i64 c d)) else (some 0))) else (some 0))
theorem spec_Without.calls {a0:Int}{a1:Int}{r:Int}{w:World}(h:spec_Without.f a0 a1=some r):
    Calls Tryz.prog 80 #[.int .i64 a0,.int .i64 a1] w fun e w'=>e=.returned (.int .i64 r)∧Drawn0 w w':=by
  have H:=h
  clear h
  unfold spec_Without.f at H
  replace H:=bE H
  obtain⟨t157,A3,H⟩:=H
  by_cases c4:t157=true
  · subst c4
    replace H:=ifT H
    replace H:=bE H
    obtain⟨t158,A5,H⟩:=H
    by_cases c6:t158=true
    · subst c6
      replace H:=ifT H
      obtain rfl:=o_I H
      go_enter Tryz.func80,Tryz.ntmps80
      go_wp2_with (first|(refine g_C 79 ?_;refine gL (some 6) Tryz.func79 #[.int .i64 a0] ?_;(with_reducible refine(spec_SetOk.calls A3.out).mono ?_);rintro e w' ⟨rfl,⟨nd,rfl⟩⟩;refine⟨_,rfl,?_⟩)|(go_at_call 79;(with_reducible refine(spec_SetOk.calls A5.out).mono ?_);rintro e w' ⟨rfl,⟨nd,rfl⟩⟩))
      go_ret
      exact⟨by first|rfl|(simp;done)|(simp [*];done),TD⟩
    · replace c6:=b_F c6
      subst c6
      replace H:=ifF H
      obtain rfl:=o_I H
      go_enter Tryz.func80,Tryz.ntmps80
      go_wp2_with (first|(refine g_C 79 ?_;refine gL (some 6) Tryz.func79 #[.int .i64 a0] ?_;(with_reducible refine(spec_SetOk.calls A3.out).mono ?_);rintro e w' ⟨rfl,⟨nd,rfl⟩⟩;refine⟨_,rfl,?_⟩)|(go_at_call 79;(with_reducible refine(spec_SetOk.calls A5.out).mono ?_);rintro e w' ⟨rfl,⟨nd,rfl⟩⟩))
      go_ret
      exact⟨by first|rfl|(simp;done)|(simp [*];done),TD⟩
  · replace c4:=b_F c4
    subst c4
    replace H:=ifF H
    obtain rfl:=o_I H
    go_enter Tryz.func80,Tryz.ntmps80
    go_wp2_with (first|(refine g_C 79 ?_;refine gL (some 6) Tryz.func79 #[.int .i64 a0] ?_;(with_reducible refine(spec_SetOk.calls A3.out).mono ?_);rintro e w' ⟨rfl,⟨nd,rfl⟩⟩;refine⟨_,rfl,?_⟩))
    go_ret
    exact⟨by first|rfl|(simp;done)|(simp [*];done),TD⟩
def spec_FullSet.f (a:Int):Option (Int):=(spec_l1In.f a 0 40).bind fun b=>(if b=true then (if 0≤a then (some (wrap64 ((shl .i64 1 a) - 1))) else (none)) else (some 0))
theorem spec_FullSet.calls {a0:Int}{r:Int}{w:World}(h:spec_FullSet.f a0=some r):
    Calls Tryz.prog 113 #[.int .i64 a0] w fun e w'=>e=.returned (.int .i64 r)∧Drawn0 w w':=by
  have H:=h
  clear h
  unfold spec_FullSet.f at H
  replace H:=bE H
  obtain⟨t159,A2,H⟩:=H
  by_cases c3:t159=true
  · subst c3
    replace H:=ifT H
    replace H:=ifN H
    obtain⟨c4,H⟩:=H
    have c4b0:=eq_true c4
    have c4b1:decide (0≤a0)=true:=decide_eq_true c4
    clear c4
    obtain⟨ji5,hji5⟩:∃j_:Int,(shl .i64 1 a0)=j_:=⟨_,rfl⟩
    (first|rw[hji5] at H|simp only[hji5] at H|skip)
    (try rw[hji5] at A2)
    have hji5_:(IntKind.i64.wrap (1 * 2 ^ min a0.toNat 64))=ji5:=hji5
    have hji5z:a0≤64→(IntKind.i64.wrap (1 * 2 ^ a0.toNat))=ji5:=shl_small hji5
    have hji5u:(IntKind.i64.wrap (2 ^ min a0.toNat 64))=ji5:=by have h_:=hji5_;rw[Int.one_mul] at h_;exact h_
    have hji5v:a0≤64→(IntKind.i64.wrap (2 ^ a0.toNat))=ji5:=fun hle_=>by have h_:=hji5z hle_;rw[Int.one_mul] at h_;exact h_
    have hji5y:(wrap64 (1 * 2 ^ min a0.toNat 64))=ji5:=(i64_w _).symm.trans hji5_
    have hji5x:a0≤64→(wrap64 (1 * 2 ^ a0.toNat))=ji5:=fun h_=>(i64_w _).symm.trans (hji5z h_)
    obtain rfl:=o_I H
    go_enter Tryz.func113,Tryz.ntmps113
    go_wp2_with (first|(refine g_C 88 ?_;refine gL (some 4) Tryz.func88 #[.int .i64 a0,.int .i64 0,.int .i64 40] ?_;(with_reducible refine(spec_l1In.calls A2.out).mono ?_);rintro e w' ⟨rfl,⟨nd,rfl⟩⟩;refine⟨_,rfl,?_⟩))
    go_ret
    exact⟨by first|rfl|(simp;done)|(simp only[← hji5]<;>(first|rfl|simp))|(simp [*];done),TD⟩
  · replace c3:=b_F c3
    subst c3
    replace H:=ifF H
    obtain rfl:=o_I H
    go_enter Tryz.func113,Tryz.ntmps113
    go_wp2_with (first|(refine g_C 88 ?_;refine gL (some 4) Tryz.func88 #[.int .i64 a0,.int .i64 0,.int .i64 40] ?_;(with_reducible refine(spec_l1In.calls A2.out).mono ?_);rintro e w' ⟨rfl,⟨nd,rfl⟩⟩;refine⟨_,rfl,?_⟩))
    go_ret
    exact⟨by first|rfl|(simp;done)|(simp [*];done),TD⟩
def spec_AllParts.f (c:Int)(d:Int)(e:Int)(a:List (S96)):Option (Int):=(spec_FullSet.f (a.length:Int)).bind fun b=>(some b)
theorem spec_AllParts.calls {a0_0:Int}{a0_1:Int}{a0_2:Int}{A0_3:Option Addr}{c0_3:Nat}{l0_3:List (S96)}{r:Int}{w:World}(hr0_3:Kd.C k96 w A0_3 l0_3.length l0_3)(hc0_3:l0_3.length≤c0_3)(h:spec_AllParts.f a0_0 a0_1 a0_2 l0_3=some r):
    Calls Tryz.prog 81 #[.agg #[.int .i64 a0_0,.int .i64 a0_1,.int .i64 a0_2,.slice A0_3 l0_3.length c0_3]] w fun e w'=>e=.returned (.int .i64 r)∧Below w.heap.size w w':=by
  have hu45:=Tryz.underlying45
  have HR0_3:=aM hr0_3
  have HC0_3:=aM hc0_3
  clear hr0_3 hc0_3
  have HB:=aM (Below.refl w.heap.size w)
  have H:=h
  clear h
  unfold spec_AllParts.f at H
  replace H:=bE H
  obtain⟨t161,A2,H⟩:=H
  obtain rfl:=o_I H
  go_enter Tryz.func81,Tryz.ntmps81
  go_wp2_with (first|(refine g_D 1 ?_;refine gBx 1 #[.int .i64 a0_0,.int .i64 a0_1,.int .i64 a0_2,.slice A0_3 l0_3.length c0_3] 45 ?_;intro gb160 hg w3 hbox hb;have BK160:=aM (hbox);have GW160:=gW HB hg;have GE160:=gW HB hg;replace HB:=bS HB hb;clear hb hbox hg;obtain⟨hcz4_0,hcz4_1,hcz4_2,hcz4_3⟩:=cz4 BK160.out;obtain⟨hfz4_0,hfz4_1,hfz4_2,hfz4_3⟩:=fz4 BK160.out)|(refine g_C 113 ?_;refine gL (some 6) Tryz.func113 #[.int .i64 (l0_3.length:Int)] ?_;(with_reducible refine(spec_FullSet.calls A2.out).mono ?_);rintro e w' ⟨rfl,⟨nd,rfl⟩⟩;refine⟨_,rfl,?_⟩))
  go_ret
  exact⟨TE,TB⟩
def spec_InSet.f (d:Int)(a:Int):Option (Bool):=(spec_SetOk.f d).bind fun b=>(if b=true then ((spec_l1In.f a 0 39).bind fun c=>(if c=true then (if 0≤a then (some ((Go.bits .and .i64 (shr .i64 d a) 1)==1)) else (none)) else (some false))) else (some false))
theorem spec_InSet.calls {a0:Int}{a1:Int}{r:Bool}{w:World}(h:spec_InSet.f a0 a1=some r):
    Calls Tryz.prog 82 #[.int .i64 a0,.int .i64 a1] w fun e w'=>e=.returned (.bool r)∧Drawn0 w w':=by
  have H:=h
  clear h
  unfold spec_InSet.f at H
  replace H:=bE H
  obtain⟨t162,A3,H⟩:=H
  by_cases c4:t162=true
  · subst c4
    replace H:=ifT H
    replace H:=bE H
    obtain⟨t163,A5,H⟩:=H
    by_cases c6:t163=true
    · subst c6
      replace H:=ifT H
      replace H:=ifN H
      obtain⟨c7,H⟩:=H
      have c7b0:=eq_true c7
      have c7b1:decide (0≤a1)=true:=decide_eq_true c7
      clear c7
      obtain⟨ji8,hji8⟩:∃j_:Int,(shr .i64 a0 a1)=j_:=⟨_,rfl⟩
      (first|rw[hji8] at H|simp only[hji8] at H|skip)
      (try rw[hji8] at A3)
      (try rw[hji8] at A5)
      have hji8_:(a0 / 2 ^ min a1.toNat 64)=ji8:=hji8
      have hji8z:a1≤64→(a0 / 2 ^ a1.toNat)=ji8:=shr_small hji8
      obtain rfl:=o_I H
      go_enter Tryz.func82,Tryz.ntmps82
      go_wp2_with (first|(refine g_C 79 ?_;refine gL (some 6) Tryz.func79 #[.int .i64 a0] ?_;(with_reducible refine(spec_SetOk.calls A3.out).mono ?_);rintro e w' ⟨rfl,⟨nd,rfl⟩⟩;refine⟨_,rfl,?_⟩)|(go_at_call 88;(with_reducible refine(spec_l1In.calls A5.out).mono ?_);rintro e w' ⟨rfl,⟨nd,rfl⟩⟩))
      go_ret
      exact⟨by first|rfl|(simp;done)|(simp only[← hji8]<;>(first|rfl|simp))|(simp [*];done),TD⟩
    · replace c6:=b_F c6
      subst c6
      replace H:=ifF H
      obtain rfl:=o_I H
      go_enter Tryz.func82,Tryz.ntmps82
      go_wp2_with (first|(refine g_C 79 ?_;refine gL (some 6) Tryz.func79 #[.int .i64 a0] ?_;(with_reducible refine(spec_SetOk.calls A3.out).mono ?_);rintro e w' ⟨rfl,⟨nd,rfl⟩⟩;refine⟨_,rfl,?_⟩)|(go_at_call 88;(with_reducible refine(spec_l1In.calls A5.out).mono ?_);rintro e w' ⟨rfl,⟨nd,rfl⟩⟩))
      go_ret
      exact⟨by first|rfl|(simp;done)|(simp [*];done),TD⟩
  · replace c4:=b_F c4
    subst c4
    replace H:=ifF H
    obtain rfl:=o_I H
    go_enter Tryz.func82,Tryz.ntmps82
    go_wp2_with (first|(refine g_C 79 ?_;refine gL (some 6) Tryz.func79 #[.int .i64 a0] ?_;(with_reducible refine(spec_SetOk.calls A3.out).mono ?_);rintro e w' ⟨rfl,⟨nd,rfl⟩⟩;refine⟨_,rfl,?_⟩))
    go_ret
    exact⟨by first|rfl|(simp;done)|(simp [*];done),TD⟩
def spec_l8Zero.l0 :Nat→List Int→Int→Option (Bool)
  |0,_,_=>none
  |k+1,b,a=>if a<(b.length:Int) then (if 0≤a then (if (rd b a)=0 then (spec_l8Zero.l0 k b (wrap64 (a+1))) else (some false)) else (none)) else (some true)
def spec_l8Zero.f (k:Nat)(a:List Int):Option (Bool):=spec_l8Zero.l0 k a 0
theorem spec_l8Zero.mono_l :∀k,(∀a b,LeO (spec_l8Zero.l0 k a b) (spec_l8Zero.l0 (k+1) a b))
  |0=>fun _ _ r h=>by simp [spec_l8Zero.l0] at h
  | k+1=>by
    have ih0:=spec_l8Zero.mono_l k
    · intro y0 y1
      unfold spec_l8Zero.l0
      exact LM
theorem spec_l8Zero.mono :∀a k,LeO (spec_l8Zero.f k a) (spec_l8Zero.f (k+1) a):=by
  intro a0 k;have ih0:=spec_l8Zero.mono_l k;unfold spec_l8Zero.f;exact LM
theorem spec_l8Zero.calls {k:Nat}{A0:Option Addr}{c0:Nat}{l0:List Int}{r:Bool}{w:World}(hr0:Kd.C (Kd.int .u8) w A0 l0.length l0)(hc0:l0.length≤c0)(h:spec_l8Zero.f k l0=some r):
    Calls Tryz.prog 84 #[.slice A0 l0.length c0] w fun e w'=>e=.returned (.bool r)∧Drawn0 w w':=by
  have HRq1:=aM hr0
  have HCq1:=aM hc0
  clear hr0 hc0
  have H:=h
  clear h
  unfold spec_l8Zero.f at H
  have H':=aM H
  clear H
  go_enter Tryz.func84,Tryz.ntmps84
  go_wp2
  go_loopg [3] k (fun kq vq1 w'=>∃(xq1:Int),vq1=.int .i64 xq1∧Aside0 (spec_l8Zero.l0 kq l0 xq1=some r)∧Aside0 (kq≤k)∧Drawn0 w w')
  case atStart=>exact⟨(0),TF,H',⟨Nat.le_refl _⟩,TD⟩
  case round=>
   clear H'
   obtain⟨xq1,rfl,HA,HKq1,⟨mq1,rfl⟩⟩:=hrel
   cases gk with
   |zero=>exact absurd HA.out (by simp [spec_l8Zero.l0])
   | succ k1=>
    have H:=HA.out
    clear HA
    simp only[spec_l8Zero.l0] at H
    by_cases cq1:xq1<(l0.length:Int)
    ·rw[if_pos cq1] at H
     have cq2:decide (xq1<(l0.length:Int))=true:=decide_eq_true cq1
     clear cq1
     replace H:=ifN H
     obtain⟨c3,H⟩:=H
     have cq3:decide (0≤xq1)=true:=decide_eq_true c3
     clear c3
     by_cases c4:(rd l0 xq1)=0
     ·rw[if_pos c4] at H
      have c4b0:((rd l0 xq1)==0)=true:=beq_iff_eq.mpr c4
      have c4b1:((rd l0 xq1) != 0)=false:=bne_eq_false_iff_eq.mpr c4
      clear c4
      have H':=aM H
      clear H
      have pq1:0≤(xq1:Int):=DT
      have qq1:xq1<(l0.length:Int):=DT
      obtain⟨adq1,eq1,hxq1⟩:=Kd.at_int HRq1.out xq1 pq1 qq1
      cases eq1
      replace pq1:=eq_true pq1
      replace qq1:=eq_true qq1
      go_wp2
      go_roundg k1
      case measure=>have:=HKq1.out;omega
      case rel=>exact⟨(wrap64 (xq1+1)),TF,H',⟨by have:=HKq1.out;omega⟩,TD⟩
     ·rw[if_neg c4] at H
      have c4b0:((rd l0 xq1)==0)=false:=beq_eq_false_iff_ne.mpr c4
      have c4b1:((rd l0 xq1) != 0)=true:=bne_iff_ne.mpr c4
      obtain rfl:=o_I H
      have pq1:0≤(xq1:Int):=DT
      have qq1:xq1<(l0.length:Int):=DT
      obtain⟨adq1,eq1,hxq1⟩:=Kd.at_int HRq1.out xq1 pq1 qq1
      cases eq1
      replace pq1:=eq_true pq1
      replace qq1:=eq_true qq1
      go_wp2
      go_ret
      exact⟨by first|rfl|(simp;done)|(simp [*];done),TD⟩
    ·rw[if_neg cq1] at H
     have cq2:decide (xq1<(l0.length:Int))=false:=decide_eq_false cq1
     clear cq1
     obtain rfl:=o_I H
     go_wp2
     go_ret
     exact⟨by first|rfl|(simp;done)|(simp [*];done),TD⟩
theorem eqA96 (d:Nat)(w:World)(x0 y0:Int)(x1 y1:Int):
    (Op.equalIn (d+2) 96 (.agg #[.int .i64 x0,.int .i64 x1]) (.agg #[.int .i64 y0,.int .i64 y1])).run Tryz.prog w=.ok (x0==y0&&(x1==y1)) w:=by
  refine eqA_of Tryz.underlying96 (by kernel_rfl) ?_
  refine eqf_cons (by rfl) (by go_simp;rfl) (by go_simp;rfl) (by go_simp) ?_
  exact eqf_last (by rfl) (by go_simp;rfl) (by go_simp;rfl) (by go_simp)
def spec_SpanOf.f (a:Int)(f:Int)(b:Int):Option (Int×Int):=(spec_Blocks.f a f).bind fun c=>((spec_l1In.f b 0 (wrap64 (c - 1))).bind fun d=>(if d=true then ((spec_Least.f a (wrap64 (f - (wrap64 (b * a))))).bind fun e=>(some (wrap64 (b * a),e))) else (some (0,0))))
theorem spec_SpanOf.calls {a0:Int}{a1:Int}{a2:Int}{r1:Int}{r2:Int}{w:World}(h:spec_SpanOf.f a0 a1 a2=some (r1,r2)):
    Calls Tryz.prog 56 #[.int .i64 a0,.int .i64 a1,.int .i64 a2] w fun e w'=>e=.returned (.tuple #[.int .i64 r1,.int .i64 r2])∧Drawn0 w w':=by
  have H:=h
  clear h
  unfold spec_SpanOf.f at H
  replace H:=bE H
  obtain⟨t119,A4,H⟩:=H
  replace H:=bE H
  obtain⟨t120,A5,H⟩:=H
  go_enter Tryz.func56,Tryz.ntmps56
  go_wp2_with (first|(refine g_C 55 ?_;refine gL (some 11) Tryz.func55 #[.int .i64 a0,.int .i64 a1] ?_;(with_reducible refine(spec_Blocks.calls A4.out).mono ?_);rintro e w' ⟨rfl,⟨nd,rfl⟩⟩;refine⟨_,rfl,?_⟩)|(refine g_C 88 ?_;refine gL (some 13) Tryz.func88 #[.int .i64 a2,.int .i64 0,.int .i64 (wrap64 (t119 - 1))] ?_;(with_reducible refine(spec_l1In.calls A5.out).mono ?_);rintro e w' ⟨rfl,⟨nd,rfl⟩⟩;refine⟨_,rfl,?_⟩)|(refine g_D 14 ?_;generalize hG_:wpList _ _ _ _ _ _=G_))
  subst hG_
  by_cases c7:t120=true
  · subst c7
    replace H:=ifT H
    replace H:=bE H
    obtain⟨t121,A8,H⟩:=H
    simp only[Option.some.injEq,Prod.mk.injEq] at H
    obtain⟨rfl,rfl⟩:=H
    go_wp2_with (first|(refine g_C 90 ?_;refine gL (some 24) Tryz.func90 #[.int .i64 a0,.int .i64 (wrap64 (a1 - (wrap64 (a2 * a0))))] ?_;(with_reducible refine(spec_Least.calls A8.out).mono ?_);rintro e w' ⟨rfl,⟨nd,rfl⟩⟩;refine⟨_,rfl,?_⟩))
    go_ret2
    exact⟨by first|rfl|(simp;done)|(simp [*];done),TD⟩
  · replace c7:=b_F c7
    subst c7
    replace H:=ifF H
    simp only[Option.some.injEq,Prod.mk.injEq] at H
    obtain⟨rfl,rfl⟩:=H
    go_wp2
    go_ret2
    exact⟨by first|rfl|(simp;done)|(simp [*];done),TD⟩
def spec_WeakOf.l0 :Nat→List Int→Int→Int→Int→Option (Int)
  |0,_,_,_,_=>none
  |k+1,b,c,d,a=>if a<(b.length:Int) then (if 0≤a then (spec_WeakOf.l0 k b (Int.tmod (wrap64 (c+(wrap64 (rd b a)))) 251) (Int.tmod (wrap64 (d+(Int.tmod (wrap64 (c+(wrap64 (rd b a)))) 251))) 251) (wrap64 (a+1))) else (none)) else (some (wrap64 (c+(wrap64 (251 * d)))))
def spec_WeakOf.f (k:Nat)(a:List Int):Option (Int):=spec_WeakOf.l0 k a 0 0 0
theorem spec_WeakOf.mono_l :∀k,(∀a b c d,LeO (spec_WeakOf.l0 k a b c d) (spec_WeakOf.l0 (k+1) a b c d))
  |0=>fun _ _ _ _ r h=>by simp [spec_WeakOf.l0] at h
  | k+1=>by
    have ih0:=spec_WeakOf.mono_l k
    · intro y0 y1 y2 y3
      unfold spec_WeakOf.l0
      exact LM
theorem spec_WeakOf.mono :∀a k,LeO (spec_WeakOf.f k a) (spec_WeakOf.f (k+1) a):=by
  intro a0 k;have ih0:=spec_WeakOf.mono_l k;unfold spec_WeakOf.f;exact LM
theorem spec_WeakOf.calls {k:Nat}{A0:Option Addr}{c0:Nat}{l0:List Int}{r:Int}{w:World}(hr0:Kd.C (Kd.int .u8) w A0 l0.length l0)(hc0:l0.length≤c0)(h:spec_WeakOf.f k l0=some r):
    Calls Tryz.prog 114 #[.slice A0 l0.length c0] w fun e w'=>e=.returned (.int .i64 r)∧Drawn0 w w':=by
  have HR0:=aM hr0
  have HC0:=aM hc0
  clear hr0 hc0
  have H:=h
  clear h
  unfold spec_WeakOf.f at H
  have H':=aM H
  clear H
  go_enter Tryz.func114,Tryz.ntmps114
  go_wp2
  go_loopg [3,4,5] k (fun kq v3 v4 v5 w'=>∃(x3_1:Int) (x4_1:Int) (x5_1:Int),v3=.int .i64 x3_1∧v4=.int .i64 x4_1∧v5=.int .i64 x5_1∧Aside0 (spec_WeakOf.l0 kq l0 x3_1 x4_1 x5_1=some r)∧Aside0 (kq≤k)∧Drawn0 w w')
  case atStart=>exact⟨(0),(0),(0),TF,TF,TF,H',⟨Nat.le_refl _⟩,TD⟩
  case round=>
    clear H'
    try clear c1
    obtain⟨x3_1,x4_1,x5_1,rfl,rfl,rfl,HA,HK1,⟨m1,rfl⟩⟩:=hrel
    cases gk with
    |zero=>exact absurd HA.out (by simp [spec_WeakOf.l0])
    | succ k1=>
      have H:=HA.out
      clear HA
      simp only[spec_WeakOf.l0] at H
      by_cases c2:x5_1<(l0.length:Int)
      · rw[if_pos c2] at H
        have c2b0:decide (x5_1<(l0.length:Int))=true:=decide_eq_true c2
        clear c2
        replace H:=ifN H
        obtain⟨c3,H⟩:=H
        have c3b0:decide (0≤x5_1)=true:=decide_eq_true c3
        clear c3
        have H':=aM H
        clear H
        have p122:0≤(x5_1:Int):=DT
        have q122:x5_1<(l0.length:Int):=DT
        obtain⟨ad122,e122,hx122_0⟩:=Kd.at_int HR0.out x5_1 p122 q122
        cases e122
        replace p122:=eq_true p122
        replace q122:=eq_true q122
        go_wp2
        go_roundg k1
        case measure=>have:=HK1.out;omega
        case rel=>exact⟨(Int.tmod (wrap64 (x3_1+(wrap64 (rd l0 x5_1)))) 251),(Int.tmod (wrap64 (x4_1+(Int.tmod (wrap64 (x3_1+(wrap64 (rd l0 x5_1)))) 251))) 251),(wrap64 (x5_1+1)),TF,TF,TF,H',⟨by have:=HK1.out;omega⟩,TD⟩
      · rw[if_neg c2] at H
        have c2b0:decide (x5_1<(l0.length:Int))=false:=decide_eq_false c2
        clear c2
        obtain rfl:=o_I H
        go_wp2
        go_ret
        exact⟨by first|rfl|(simp;done)|(simp [*];done),TD⟩
def spec_SumOf.l0 :Nat→List Int→Int→Int→Option (Int×Int)
  |0,_,_,_=>none
  |k+1,a,d,b=>if b<(a.length:Int) then (if 0≤b then (spec_SumOf.l0 k a (wrap64 ((wrap64 (256 * d))+(wrap64 (rd a b)))) (wrap64 (b+1))) else (none)) else ((spec_WeakOf.f k a).bind fun c=>(some (c,d)))
def spec_SumOf.f (k:Nat)(a:List Int):Option (Int×Int):=if (a.length:Int)>6 then (some (0,0)) else (spec_SumOf.l0 k a 1 0)
theorem spec_SumOf.mono_l :∀k,(∀a b c,LeO (spec_SumOf.l0 k a b c) (spec_SumOf.l0 (k+1) a b c))
  |0=>fun _ _ _ r h=>by simp [spec_SumOf.l0] at h
  | k+1=>by
    have m0_:=@spec_WeakOf.mono
    have ih0:=spec_SumOf.mono_l k
    · intro y0 y1 y2
      unfold spec_SumOf.l0
      exact LM
theorem spec_SumOf.mono :∀a k,LeO (spec_SumOf.f k a) (spec_SumOf.f (k+1) a):=by
  intro a0 k;have m0_:=@spec_WeakOf.mono;have ih0:=spec_SumOf.mono_l k;unfold spec_SumOf.f;exact LM
theorem spec_SumOf.calls {k:Nat}{A0:Option Addr}{c0:Nat}{l0:List Int}{r1:Int}{r2:Int}{w:World}(hr0:Kd.C (Kd.int .u8) w A0 l0.length l0)(hc0:l0.length≤c0)(h:spec_SumOf.f k l0=some (r1,r2)):
    Calls Tryz.prog 83 #[.slice A0 l0.length c0] w fun e w'=>e=.returned (.agg #[.int .i64 r1,.int .i64 r2])∧Below w.heap.size w w':=by
  have hu96:=Tryz.underlying96
  have HR0:=aM hr0
  have HC0:=aM hc0
  clear hr0 hc0
  have HB:=aM (Below.refl w.heap.size w)
  have H:=h
  clear h
  unfold spec_SumOf.f at H
  by_cases c2:(l0.length:Int)>6
  · rw[if_pos c2] at H
    have c2b0:decide (6<(l0.length:Int))=true:=decide_eq_true c2
    have c2b1:decide (6<l0.length)=true:=decide_eq_true (by omega)
    clear c2
    simp only[Option.some.injEq,Prod.mk.injEq] at H
    obtain⟨rfl,rfl⟩:=H
    go_enter Tryz.func83,Tryz.ntmps83
    go_wp2_with (first|(refine g_D 2 ?_;refine gBx 2 #[.int .i64 0,.int .i64 0] 96 ?_;intro gb123 hg w3 hbox hb;have BK123:=aM (hbox);have GW123:=gW HB hg;have GE123:=gW HB hg;replace HB:=bS HB hb;clear hb hbox hg;obtain⟨hcz4_0,hcz4_1⟩:=cz2 BK123.out;obtain⟨hfz4_0,hfz4_1⟩:=fz2 BK123.out))
    refine bodyPost_ret (results_cell_row rfl _ _ gb123 96 #[.int .i64 0,.int .i64 0] (0,0) _ rfl (blk_put (blk_put (cs:=#[.int .i64 0,.int .i64 0]) (TZ BK123) 0 _ rfl) 1 _ rfl) Tryz.underlying96 rfl (by kernel_rfl)) rfl ?_
    exact⟨TE,TB⟩
  · rw[if_neg c2] at H
    have c2b0:decide (6<(l0.length:Int))=false:=decide_eq_false c2
    have c2b1:decide (6<l0.length)=false:=decide_eq_false (by omega)
    clear c2
    have H':=aM H
    clear H
    go_enter Tryz.func83,Tryz.ntmps83
    go_wp2_with (first|(refine g_D 2 ?_;refine gBx 2 #[.int .i64 0,.int .i64 0] 96 ?_;intro gb123 hg w5 hbox hb;have BK123:=aM (hbox);have GW123:=gW HB hg;have GE123:=gW HB hg;replace HB:=bS HB hb;clear hb hbox hg))
    go_loopg [3,4] k (fun kq v3 v4 w'=>∃(x3_1:Int) (x4_1:Int),v3=.int .i64 x3_1∧v4=.int .i64 x4_1∧Aside0 (spec_SumOf.l0 kq l0 x3_1 x4_1=some (r1,r2))∧Aside0 (kq≤k)∧Aside0 (w'.heap[gb123]?=some (.cells #[.int .i64 0,.int .i64 0] 96 (0,0)))∧Aside0 (Below w.heap.size w w'))
    case atStart=>exact⟨(1),(0),TF,TF,H',⟨Nat.le_refl _⟩,⟨TK⟩,⟨TB⟩⟩
    case round=>
      clear H'
      try clear c2
      try clear c2b0
      try clear c2b1
      try clear p2
      try clear hcz4_0
      try clear hcz4_1
      try clear hfz4_0
      try clear hfz4_1
      obtain⟨x3_1,x4_1,rfl,rfl,HA,HK1,BK123,HB⟩:=hrel
      cases gk with
      |zero=>exact absurd HA.out (by simp [spec_SumOf.l0])
      | succ k1=>
        have H:=HA.out
        clear HA
        simp only[spec_SumOf.l0] at H
        by_cases c6:x4_1<(l0.length:Int)
        · rw[if_pos c6] at H
          have c6b0:decide (x4_1<(l0.length:Int))=true:=decide_eq_true c6
          clear c6
          replace H:=ifN H
          obtain⟨c7,H⟩:=H
          have c7b0:decide (0≤x4_1)=true:=decide_eq_true c7
          clear c7
          have H':=aM H
          clear H
          have p124:0≤(x4_1:Int):=DT
          have q124:x4_1<(l0.length:Int):=DT
          obtain⟨ad124,e124,hx124_0⟩:=Kd.at_int HR0.out x4_1 p124 q124
          cases e124
          replace hx124_0:=(HB.out.cell (World.block_lt_of_cell? w _ hx124_0)).trans hx124_0
          replace p124:=eq_true p124
          replace q124:=eq_true q124
          go_wp2
          go_roundg k1
          case measure=>have:=HK1.out;omega
          case rel=>exact⟨(wrap64 ((wrap64 (256 * x3_1))+(wrap64 (rd l0 x4_1)))),(wrap64 (x4_1+1)),TF,TF,H',⟨by have:=HK1.out;omega⟩,⟨TK⟩,⟨TB⟩⟩
        · rw[if_neg c6] at H
          have c6b0:decide (x4_1<(l0.length:Int))=false:=decide_eq_false c6
          clear c6
          replace H:=bE H
          obtain⟨t125,A8,H⟩:=H
          simp only[Option.some.injEq,Prod.mk.injEq] at H
          obtain⟨rfl,rfl⟩:=H
          go_wp2_with (first|(refine g_C 114 ?_;refine gL (some 24) Tryz.func114 #[.slice A0 l0.length c0] ?_;(with_reducible refine(spec_WeakOf.calls ?side1 ?side2 A8.out).mono ?_);(case side1=>have X_:=(Kd.C_below HR0.out HB.out);exact TC);(case side2=>exact HC0.out);rintro e w' ⟨rfl,⟨nd,rfl⟩⟩;refine⟨_,rfl,?_⟩;(try (rw[drewN_self wr];generalize hq_:World.drewN wr _=wr;have n0_:Aside0 (wr.heap[gb123]?=some (.cells #[.int .i64 0,.int .i64 0] 96 (0,0))):=⟨by rw[← hq_];exact TK⟩;have n1_:Aside0 (Below w.heap.size w wr):=⟨by rw[← hq_];exact TB⟩;clear BK123 HB hq_;have BK123:=n0_;have HB:=n1_;clear n0_ n1_));obtain⟨hcz9_0,hcz9_1⟩:=cz2 BK123.out;obtain⟨hfz9_0,hfz9_1⟩:=fz2 BK123.out))
          refine bodyPost_ret (results_cell_row rfl _ _ gb123 96 #[.int .i64 t125,.int .i64 x3_1] (0,0) _ rfl (blk_put (blk_put (cs:=#[.int .i64 0,.int .i64 0]) (TZ BK123) 0 _ rfl) 1 _ rfl) Tryz.underlying96 rfl (by kernel_rfl)) rfl ?_
          exact⟨TE,TB⟩
def spec_BytesOf.l0 :Nat→Int→List Int→Option (List Int×Bool)
  |0,_,_=>none
  |k+1,b,c=>if b>1 then (if b<256 then (some ((([]:List Int)),false)) else ((some (([(Go.bits .and .i64 b 255) % 256]:List Int):List Int)).bind fun a=>(if a.length+c.length<140737488355328 then (spec_BytesOf.l0 k (b / 256) (a++c)) else (none)))) else (some (c,true))
def spec_BytesOf.f (k:Nat)(b:Int):Option (List Int×Bool):=(spec_l1In.f b 1 562949953421311).bind fun a=>(if a=true then (spec_BytesOf.l0 k b (([]:List Int))) else (some ((([]:List Int)),false)))
theorem spec_BytesOf.mono_l :∀k,(∀a b,LeO (spec_BytesOf.l0 k a b) (spec_BytesOf.l0 (k+1) a b))
  |0=>fun _ _ r h=>by simp [spec_BytesOf.l0] at h
  | k+1=>by
    have ih0:=spec_BytesOf.mono_l k
    · intro y0 y1
      unfold spec_BytesOf.l0
      exact LM
theorem spec_BytesOf.mono :∀a k,LeO (spec_BytesOf.f k a) (spec_BytesOf.f (k+1) a):=by
  intro a0 k;have ih0:=spec_BytesOf.mono_l k;unfold spec_BytesOf.f;exact LM
theorem spec_BytesOf.calls {k:Nat}{a0:Int}{r1:List Int}{r2:Bool}{w:World}(h:spec_BytesOf.f k a0=some (r1,r2)):
  Calls Tryz.prog 112 #[.int .i64 a0] w fun e w'=>∃v0_:Value,e=.returned (.tuple #[v0_,.bool r2])∧Kd.R (Kd.int .u8) 5 w' w.heap.size (fun _=>True) v0_ r1∧Below w.heap.size w w':=by
 have HB:=aM (Below.refl w.heap.size w);have H:=h;clear h;unfold spec_BytesOf.f at H;replace H:=bE H;obtain⟨t126,Aq1,H⟩:=H
 by_cases c3:t126=true
 ·subst c3;replace H:=ifT H;obtain⟨yq1,ad⟩:∃y_:List Int,y_=(([]:List Int)):=⟨_,rfl⟩;rw[← ad] at H;have af:=aM ad;clear ad;have H':=aM H;clear H;go_enter Tryz.func112,Tryz.ntmps112;go_wp2_with (first|(refine g_C 88 ?_;refine gL (some 6) Tryz.func88 #[.int .i64 a0,.int .i64 1,.int .i64 562949953421311] ?_;(with_reducible refine(spec_l1In.calls Aq1.out).mono ?_);rintro e w' ⟨rfl,⟨nd,rfl⟩⟩;refine⟨_,rfl,?_⟩)|(refine g_D 9 ?_;refine Kd.R_lit (Kd.int .u8) _ 5 ?hg (N:=9) ?hd (xs:=([]:List Int)) (inner:=[]) (ok:=fun _=>True) (okp:=fun _=>True) ?hr ?hp (fun _ hk=>hk) trivial (Below.refl _ _) (Nat.le_refl _) (by simp) ?_;(case hd=>rfl);(case hg=>rfl);(case hr=>first|(go_simp;done)|(go_simp;rfl));(case hp=>exact(Reps.none _ _));intro vq1 wq1 hoq1 hb hg_ hnew_;clear hg_ hnew_;(first|rw[← af.out] at hoq1|(simp only[Int.reduceToNat] at hoq1;rw[← af.out] at hoq1));have HOq1:=aM (Kd.R_lower hoq1 (below_size TB));replace HB:=bS HB hb;clear hb hoq1))
  go_loopg [0,4] k (fun kq vq2 v4 w'=>∃(xq1:Int) (ae:List Int),vq2=.int .i64 xq1∧Aside0 (spec_BytesOf.l0 kq xq1 ae=some (r1,r2))∧Aside0 (kq≤k)∧Aside0 (Kd.R (Kd.int .u8) 5 w' w.heap.size (fun _=>True) v4 ae)∧Aside0 (Below w.heap.size w w'))
  case atStart=>exact⟨(a0),(yq1),TF,H',⟨Nat.le_refl _⟩,⟨by have X_:=HOq1.out;exact TR⟩,⟨TB⟩⟩
  case round=>
   clear H';try clear c3
   obtain⟨xq1,ae,rfl,HA,HK1,ab,HB⟩:=hrel;cases gk with
   |zero=>exact absurd HA.out (by simp [spec_BytesOf.l0])
   | succ k1=>
    have H:=HA.out;clear HA;simp only[spec_BytesOf.l0] at H
    by_cases c6:xq1>1
    ·rw[if_pos c6] at H;have c6b0:decide (1<xq1)=true:=decide_eq_true c6;clear c6
     by_cases c7:xq1<256
     ·rw[if_pos c7] at H;have c7b0:decide (xq1<256)=true:=decide_eq_true c7;clear c7;obtain⟨yq2,ac⟩:∃y_:List Int,y_=(([]:List Int)):=⟨_,rfl⟩;rw[← ac] at H;have ag:=aM ac;clear ac;simp only[Option.some.injEq,Prod.mk.injEq] at H;obtain⟨rfl,rfl⟩:=H;go_wp2_with (first|(refine g_D 14 ?_;refine Kd.R_lit (Kd.int .u8) _ 5 ?hg (N:=14) ?hd (xs:=([]:List Int)) (inner:=[]) (ok:=fun _=>True) (okp:=fun _=>True) ?hr ?hp (fun _ hk=>hk) trivial (Below.refl _ _) (Nat.le_refl _) (by simp) ?_;(case hd=>rfl);(case hg=>rfl);(case hr=>first|(go_simp;done)|(go_simp;rfl));(case hp=>exact(Reps.none _ _));intro vq3 wq2 aa hb hg_ hnew_;clear hg_ hnew_;(first|rw[← ag.out] at aa|(simp only[Int.reduceToNat] at aa;rw[← ag.out] at aa));have HOq3:=aM (Kd.R_lower (Kd.R_new' aa (Kd.R_lt (TRf ab))) (below_size TB));replace ab:=aM (Kd.R_elder' (TRf ab) (Kd.R_base aa) hb);replace HB:=bS HB hb;clear hb aa))
      go_ret2
      exact⟨_,TE,by (with_reducible repeat (first|apply Kd.R_alloc|apply Kd.R_drewN|apply Kd.R_drew));exact Kd.R_mono HOq3.out (fun _ hk=>trivial),TB⟩
     ·rw[if_neg c7] at H;have c7b0:decide (xq1<256)=false:=decide_eq_false c7;clear c7;obtain⟨y136,ac⟩:∃y_:List Int,y_=(([(Go.bits .and .i64 xq1 255) % 256]:List Int)):=⟨_,rfl⟩;replace H:=someE H ac;have ag:=aM ac;clear ac;replace H:=ifN H;obtain⟨cq1,H⟩:=H;have LMcq1:=aM cq1;clear cq1;obtain⟨yq2,ah⟩:∃y_:List Int,y_=(y136++ae):=⟨_,rfl⟩;rw[← ah] at H;have Nyq3:=aM ah;clear ah;have H':=aM H;clear H;go_wp2_with (first|(refine g_D 18 ?_;refine Kd.R_lit (Kd.int .u8) _ 5 ?hg (N:=18) ?hd (xs:=([(Go.bits .and .i64 xq1 255) % 256]:List Int)) (inner:=[.int .u8 ((Go.bits .and .i64 xq1 255) % 256)]) (ok:=fun _=>True) (okp:=fun _=>True) ?hr ?hp (fun _ hk=>hk) trivial (Below.refl _ _) (Nat.le_refl _) (by simp) ?_;(case hd=>rfl);(case hg=>rfl);(case hr=>first|(go_simp;done)|(go_simp;rfl));(case hp=>exact(Reps.one (show Kd.M (Kd.int .u8) _ _ _ ((Go.bits .and .i64 xq1 255) % 256) [.int .u8 ((Go.bits .and .i64 xq1 255) % 256)] from rfl) (Reps.none _ _)));intro vq3 wq2 aa hb hg_ hnew_;clear hg_ hnew_;(first|rw[← ag.out] at aa|(simp only[Int.reduceToNat] at aa;rw[← ag.out] at aa));have HOq3:=aM (Kd.R_lower (Kd.R_new' aa (Kd.R_lt (TRf ab))) (below_size TB));replace ab:=aM (Kd.R_elder' (TRf ab) (Kd.R_base aa) hb);replace HB:=bS HB hb;clear hb aa;obtain⟨Aoq1,coq1,eoq1⟩:=Kd.R_slice ab.out;subst eoq1)|((with_reducible refine gate_builtin (b:=.append) (xs:=#[.tmp 18,.tmp 19]) rfl ?_);at_builtin;refine Kd.R_append_rows (Kd.int .u8) (w0:=w) w.heap.size rfl (.tmp 18) (.tmp 19) 22 5 (.int .u8 0) 1 rfl Tryz.underlying22 info5 rfl (by decide) (by omega) vq3 y136 ae _ _ _ (fun k_=>some k_≠(.slice Aoq1 ae.length coq1:Value).ownBlock) (fun _=>False) rfl rfl ?aO ?aR (fun _ _ h=>h) (fun _ h=>h.elim) ?aF ?aB ?aS ?aL ?_;(case aR=>repeat (first|exact(Kd.R_reads' ab.out).2.2|(with_reducible refine Kd.C_alloc ?_ _)|(with_reducible refine Kd.C_drewN ?_ _)|(with_reducible refine Kd.C_drew ?_)));(case aB=>exact TB);(case aF=>exact(fun k_ hk=>Kd.fresh' (Kd.R_lt (TRf ab)) k_ hk));(case aO=>exact(by (with_reducible repeat (first|apply Kd.R_alloc|apply Kd.R_drewN|apply Kd.R_drew));exact Kd.R_mono HOq3.out (fun _ hk=>hk.2)));(case aS=>exact(below_size TB));(case aL=>have:=LMcq1.out;omega);intro vq4 wq3 ho hb hg hat;rw[← Nyq3.out] at ho;have HOq4:=aM (ho);replace ab:=aM (Kd.R_after (ok:=(fun _=>True)) (TRf ab) hg hat);replace HB:=aM (hb);clear HOq3;clear ho hb hg hat))
      go_roundg k1
      case measure=>have:=HK1.out;omega
      case rel=>exact⟨(xq1 / 256),(yq2),TF,H',⟨by have:=HK1.out;omega⟩,⟨by (with_reducible repeat (first|apply Kd.R_alloc|apply Kd.R_drewN|apply Kd.R_drew));exact Kd.R_mono HOq4.out (fun _ hk=>trivial)⟩,⟨TB⟩⟩
    ·rw[if_neg c6] at H;have c6b0:decide (1<xq1)=false:=decide_eq_false c6;clear c6;simp only[Option.some.injEq,Prod.mk.injEq] at H;obtain⟨rfl,rfl⟩:=H;go_wp2
     go_ret2
     exact⟨_,TE,by have X_:=ab.out;exact TR,TB⟩
 ·replace c3:=b_F c3;subst c3;replace H:=ifF H;obtain⟨yq1,ad⟩:∃y_:List Int,y_=(([]:List Int)):=⟨_,rfl⟩;rw[← ad] at H;have af:=aM ad;clear ad;simp only[Option.some.injEq,Prod.mk.injEq] at H;obtain⟨rfl,rfl⟩:=H;go_enter Tryz.func112,Tryz.ntmps112;go_wp2_with (first|(refine g_C 88 ?_;refine gL (some 6) Tryz.func88 #[.int .i64 a0,.int .i64 1,.int .i64 562949953421311] ?_;(with_reducible refine(spec_l1In.calls Aq1.out).mono ?_);rintro e w' ⟨rfl,⟨nd,rfl⟩⟩;refine⟨_,rfl,?_⟩)|(refine g_D 8 ?_;refine Kd.R_lit (Kd.int .u8) _ 5 ?hg (N:=8) ?hd (xs:=([]:List Int)) (inner:=[]) (ok:=fun _=>True) (okp:=fun _=>True) ?hr ?hp (fun _ hk=>hk) trivial (Below.refl _ _) (Nat.le_refl _) (by simp) ?_;(case hd=>rfl);(case hg=>rfl);(case hr=>first|(go_simp;done)|(go_simp;rfl));(case hp=>exact(Reps.none _ _));intro vq1 wq1 hoq1 hb hg_ hnew_;clear hg_ hnew_;(first|rw[← af.out] at hoq1|(simp only[Int.reduceToNat] at hoq1;rw[← af.out] at hoq1));have HOq1:=aM (Kd.R_lower hoq1 (below_size TB));replace HB:=bS HB hb;clear hb hoq1))
  go_ret2
  exact⟨_,TE,by have X_:=HOq1.out;exact TR,TB⟩
attribute [local go_sem] min2_int min_two
attribute [local go_sem high] eqA96
mutual
def spec_ManOk.j0 :Nat→Bool→Int→Int→Int→List (S96)→Option (Bool)
  |0,_,_,_,_,_=>none
  |k+1,e,a,b,c,d=>if e=true then (some false) else (spec_ManOk.l0 k 0 a b c d)
def spec_ManOk.l0 :Nat→Int→Int→Int→Int→List (S96)→Option (Bool)
  |0,_,_,_,_,_=>none
  |k+1,e,g,b,c,a=>if e<(a.length:Int) then (if 0≤e then ((spec_BytesOf.f k ((rd_T96 a e).f1)).bind fun d=>((spec_SpanOf.f b c e).bind fun h=>(if d.2=true then (if (d.1.length:Int)=h.2 then ((spec_SumOf.f k d.1).bind fun f=>(if (!(f.1==((rd_T96 a e).f0))||(!(f.2==((rd_T96 a e).f1))))=true then (some false) else (spec_ManOk.l0 k (wrap64 (e+1)) g b c a))) else (some false)) else (some false)))) else (none)) else (some true)
end
def spec_ManOk.f (k:Nat)(c:Int)(a:Int)(b:Int)(d:List (S96)):Option (Bool):=if c=0 then (if a=0 then (if b=0 then (some ((d.length:Int)==0)) else (some false)) else (some false)) else ((spec_l1In.f c 1 1000000).bind fun e=>(if e=true then ((spec_SizeOk.f a b).bind fun f=>(if f=true then ((spec_Blocks.f a b).bind fun g=>(spec_ManOk.j0 k ((d.length:Int) != g) c a b d)) else (spec_ManOk.j0 k true c a b d))) else (spec_ManOk.j0 k true c a b d)))
theorem spec_ManOk.mono_l :∀k,(∀a b c d e,LeO (spec_ManOk.j0 k a b c d e) (spec_ManOk.j0 (k+1) a b c d e))∧(∀a b c d e,LeO (spec_ManOk.l0 k a b c d e) (spec_ManOk.l0 (k+1) a b c d e))
  |0=>⟨fun _ _ _ _ _ r h=>by simp [spec_ManOk.j0] at h,fun _ _ _ _ _ r h=>by simp [spec_ManOk.l0] at h⟩
  | k+1=>by
    have m0_:=@spec_BytesOf.mono
    have m1_:=@spec_SumOf.mono
    obtain⟨ih0,ih1⟩:=spec_ManOk.mono_l k
    refine⟨?_,?_⟩
    · intro y0 y1 y2 y3 y4
      unfold spec_ManOk.j0
      exact LM
    · intro y0 y1 y2 y3 y4
      unfold spec_ManOk.l0
      exact LM
theorem spec_ManOk.mono :∀a b c d k,LeO (spec_ManOk.f k a b c d) (spec_ManOk.f (k+1) a b c d):=by
  intro a0 a1 a2 a3 k;have m0_:=@spec_BytesOf.mono;have m1_:=@spec_SumOf.mono;obtain⟨ih0,ih1⟩:=spec_ManOk.mono_l k;unfold spec_ManOk.f;exact LM
def spec_ManOk.T3 :Bool×List (List Nat×List Nat):=(true,[([],[]),([0],[0]),([1],[1]),([2],[2]),([3,2],[3]),([4],[4]),([5,4],[4,5]),([4],[4]),([7,4],[4,7]),([6,8,4,4],[4,6,8]),([9,4],[4,9]),([4,10],[4,10]),([11,9],[11]),([12],[12]),([13,12],[12,13]),([14,12],[12,14]),([12],[12]),([16,12],[12,16]),([12],[12]),([18,12],[12,18]),([17,19,12,12],[12,17,19]),([15,20,12],[12,15,20]),([12,21],[12,21])])
def spec_ManOk.B3 :List Nat:=[0,1,3,7,15,31,63,31,159,511,1023,2047,4095,8191,16383,32767,8191,73727,8191,270335,991231,2097151,4194303]
theorem spec_ManOk.tab3 :rtab .any (opsOf Tryz.f78 3)=spec_ManOk.T3:=by kernel_rfl
theorem spec_ManOk.bits3 :waitsOk spec_ManOk.T3.2 spec_ManOk.B3=true:=by kernel_rfl
def spec_ManOk.T10 :Bool×List (List Nat×List Nat):=(true,[([],[]),([0],[0]),([1],[1]),([2],[2]),([3,2],[2,3]),([2],[2]),([4,5,2],[2,4,5]),([2,6],[2,6]),([7,2],[7]),([8],[8]),([9,8,8],[8,9]),([8],[8]),([11,8],[8,11]),([8],[8]),([12,13,8],[8,12,13]),([14,8],[8,14]),([10,15,8],[8,10,15]),([8,16],[8,16])])
def spec_ManOk.B10 :List Nat:=[0,1,3,7,15,7,63,127,255,511,1023,511,2559,511,14847,31231,65535,131071]
theorem spec_ManOk.tab10 :rtab .any (opsOf Tryz.f78 10)=spec_ManOk.T10:=by kernel_rfl
theorem spec_ManOk.bits10 :waitsOk spec_ManOk.T10.2 spec_ManOk.B10=true:=by kernel_rfl
theorem Yq5_2 {p:Prop}(h:p:=by
 refine ppq 7 81 ?_;refine ppq 8 82 ?_;refine pxq 9 83 ?_;refine pxq 10 84 ?_;refine pxq 11 85 ?_;refine pxq 12 86 ?_;refine pxq 13 87 ?_;refine pxq 14 88 ?_;refine pxq 15 89 ?_;refine pxq 16 90 ?_;refine ppq 17 91 ?_;refine done_ (done_of HT_.out (by kernel_rfl)) ?_;try go_wp2
 go_ret
 exact⟨TE,TB⟩):p:=h
theorem Yq5_1 {p:Prop}(h:p:=by
 refine pxq 13 38 ?_;refine pxq 14 39 ?_;refine pxq 15 40 ?_;refine pxq 16 41 ?_;refine pxq 17 42 ?_;refine pxq 18 43 ?_;refine pxq 19 44 ?_;refine pxq 20 45 ?_;refine pxq 21 46 ?_;refine ppq 22 47 ?_;refine done_ (done_of HT_.out (by kernel_rfl)) ?_;try go_wp2
 go_meet
 case rel=>exact⟨_,(true),TF,H',⟨by first|omega|exact Nat.le_refl _⟩,⟨TK⟩,⟨TB⟩⟩):p:=h
theorem Yq5_0 {p:Prop}(h:p:=by
 obtain rfl:=o_I H;go_enter Tryz.func78,Tryz.ntmps78;go_wp2_with (first|(refine g_D 1 ?_;(try (refine gate_guard (by rfl) ?_;dsimp only));refine gBx 1 #[.int .i64 af,.int .i64 ae,.int .i64 ad,.slice am ac.length ag] 45 ?_;intro aj hg wq1 hbox hb;have aa:=aM (hbox);have GWq1:=gW HB hg;have GEq1:=gW HB hg;replace HB:=bS HB hb;clear hb hbox hg;obtain⟨ap,aw,aq,av⟩:=cz4 aa.out;obtain⟨au,ay,ax,ar⟩:=fz4 aa.out))
 go_ret
 exact⟨TE,TB⟩):p:=h
theorem spec_ManOk.calls {k:Nat}{af:Int}{ae:Int}{ad:Int}{am:Option Addr}{ag:Nat}{ac:List (S96)}{r:Bool}{w:World}(aN:Kd.C k96 w am ac.length ac)(aL:ac.length≤ag)(h:spec_ManOk.f k af ae ad ac=some r):
  Calls Tryz.prog 78 #[.agg #[.int .i64 af,.int .i64 ae,.int .i64 ad,.slice am ac.length ag]] w fun e w'=>e=.returned (.bool r)∧Below w.heap.size w w':=by
 have huq1:=Tryz.underlying45;have huq2:=Tryz.underlying96;have aI:=aM aN;have HCq1:=aM aL;clear aN aL;have HB:=aM (Below.refl w.heap.size w);have H:=h;clear h;unfold spec_ManOk.f at H
 by_cases cq1:af=0
 ·rw[if_pos cq1] at H;have cq2:(af==0)=true:=beq_iff_eq.mpr cq1;have cq3:(af != 0)=false:=bne_eq_false_iff_eq.mpr cq1;clear cq1
  by_cases cq4:ae=0
  ·rw[if_pos cq4] at H;have cq5:(ae==0)=true:=beq_iff_eq.mpr cq4;have cq6:(ae != 0)=false:=bne_eq_false_iff_eq.mpr cq4;clear cq4
   by_cases cq7:ad=0
   ·rw[if_pos cq7] at H;have cq8:(ad==0)=true:=beq_iff_eq.mpr cq7;have cq9:(ad != 0)=false:=bne_eq_false_iff_eq.mpr cq7;clear cq7;exact Yq5_0
   ·rw[if_neg cq7] at H;have cq8:(ad==0)=false:=beq_eq_false_iff_ne.mpr cq7;have cq9:(ad != 0)=true:=bne_iff_ne.mpr cq7;exact Yq5_0
  ·rw[if_neg cq4] at H;have cq5:(ae==0)=false:=beq_eq_false_iff_ne.mpr cq4;have cq6:(ae != 0)=true:=bne_iff_ne.mpr cq4;exact Yq5_0
 ·rw[if_neg cq1] at H;have cq2:(af==0)=false:=beq_eq_false_iff_ne.mpr cq1;have cq3:(af != 0)=true:=bne_iff_ne.mpr cq1;have aH:=aM H;clear H;go_enter Tryz.func78,Tryz.ntmps78;go_upto_region 3 with (first|(refine g_D 1 ?_;(try (refine gate_guard (by rfl) ?_;dsimp only));refine gBx 1 #[.int .i64 af,.int .i64 ae,.int .i64 ad,.slice am ac.length ag] 45 ?_;intro aj hg wq1 hbox hb;have aa:=aM (hbox);have GWq1:=gW HB hg;have GEq1:=gW HB hg;replace HB:=bS HB hb;clear hb hbox hg;obtain⟨ap,aw,aq,av⟩:=cz4 aa.out;obtain⟨au,ay,ax,ar⟩:=fz4 aa.out))
  (try simp only[NP])
  go_cut [47] (fun vq1 wc=>∃(kq:Nat) (xq1:Bool),vq1=.bool xq1∧Aside0 (spec_ManOk.j0 kq xq1 af ae ad ac=some r)∧Aside0 (kq≤k)∧Aside0 (wc.heap[aj]?=some (.cells #[.int .i64 af,.int .i64 ae,.int .i64 ad,(.slice am ac.length ag)] 45 (0,0)))∧Aside0 (Below w.heap.size w wc))
  case first=>
   have H:=aH.out;clear aH;replace H:=bE H;obtain⟨t143,Aq1,H⟩:=H;try go_wp2
   replace aa:=bD aa;replace HB:=aM (below_drew1 HB.out);refine st_ (n:=23) (ds:=[]) (Array.replicate 23 false) (hK4 aa.out) (by kernel_rfl) rfl rfl (fun hHeld=>?_);refine with_tabW spec_ManOk.tab3 spec_ManOk.bits3 (fun HT_ HW_=>?_);generalize wq1.drew=wq2 at aa HB hHeld ⊢;refine ppq 0 25 ?_;refine ptq 1 26 ?_;refine poq 2 27 (fun K hK=>?_);refine gG Tryz.func88 #[.int .i64 af,.int .i64 1,.int .i64 1000000] ?_;with_reducible refine(spec_l1In.calls Aq1.out).mono ?_
   rintro e w' ⟨rfl,⟨nd,rfl⟩⟩;refine⟨_,rfl,?_⟩;refine hK.out _ _ (cz4 aa.out) (fun hHeld=>?_);clear hK K;refine nR ?_;refine ppq 3 28 ?_;refine ppq 4 29 ?_
   by_cases cq4:t143=true
   ·subst cq4;replace H:=ifT H;replace H:=bE H;obtain⟨t144,Aq2,H⟩:=H;refine ppq 5 30 ?_;refine ppq 7 32 ?_;refine ptq 6 31 ?_;refine ptq 8 33 ?_;refine poq 9 34 (fun K hK=>?_);refine gG Tryz.func54 #[.int .i64 ae,.int .i64 ad] ?_;with_reducible refine(spec_SizeOk.calls Aq2.out).mono ?_
    rintro e w' ⟨rfl,⟨nd,rfl⟩⟩;refine⟨_,rfl,?_⟩;refine hK.out _ _ (cz4 aa.out) (fun hHeld=>?_);clear hK K;refine nR ?_;refine ppq 10 35 ?_;refine ppq 11 36 ?_;refine ppq 12 37 ?_
    by_cases cq5:t144=true
    ·subst cq5;replace H:=ifT H;replace H:=bE H;obtain⟨t145,Aq3,H⟩:=H;have H':=aM H;clear H;refine ppq 13 38 ?_;refine ppq 16 41 ?_;refine ppq 18 43 ?_;refine ptq 14 39 ?_;refine ppq 15 40 ?_;refine ptq 17 42 ?_;refine ptq 19 44 ?_;refine poq 20 45 (fun K hK=>?_);refine gG Tryz.func55 #[.int .i64 ae,.int .i64 ad] ?_;with_reducible refine(spec_Blocks.calls Aq3.out).mono ?_
     rintro e w' ⟨rfl,⟨nd,rfl⟩⟩;refine⟨_,rfl,?_⟩;refine hK.out _ _ (cz4 aa.out) (fun hHeld=>?_);clear hK K;refine nR ?_;refine ppq 21 46 ?_;refine ppq 22 47 ?_;refine done_ (done_of HT_.out (by kernel_rfl)) ?_;try go_wp2
     go_meet
     case rel=>exact⟨_,(((ac.length:Int) != t145)),TF,H',⟨by first|omega|exact Nat.le_refl _⟩,⟨TK⟩,⟨TB⟩⟩
    ·replace cq5:=b_F cq5;subst cq5;replace H:=ifF H;have H':=aM H;clear H;exact Yq5_1
   ·replace cq4:=b_F cq4;subst cq4;replace H:=ifF H;have H':=aM H;clear H;refine pxq 5 30 ?_;refine pxq 6 31 ?_;refine pxq 7 32 ?_;refine pxq 8 33 ?_;refine pxq 9 34 ?_;refine pxq 10 35 ?_;refine ppq 11 36 ?_;refine ppq 12 37 ?_;exact Yq5_1
  case rest=>
   clear aH;try clear cq1
   try clear cq2
   try clear cq3
   try clear ap
   try clear aw
   try clear aq
   try clear av
   try clear au
   try clear ay
   try clear ax
   try clear ar
   obtain⟨kq,xq1,rfl,HA,HJq1,aa,HB⟩:=hcut;cases kq with
   |zero=>exact absurd HA.out (by simp [spec_ManOk.j0])
   | succ kj10=>
    have H:=HA.out;clear HA;simp only[spec_ManOk.j0] at H
    by_cases aC:xq1=true
    ·subst aC;replace H:=ifT H;obtain rfl:=o_I H;go_wp2
     go_ret
     exact⟨TE,TB⟩
    ·replace aC:=b_F aC;subst aC;replace H:=ifF H;have H':=aM H;clear H;go_wp2
     go_loopg [3] kj10 (fun kq vq2 w'=>∃(xq2:Int),vq2=.int .i64 xq2∧Aside0 (spec_ManOk.l0 kq xq2 af ae ad ac=some r)∧Aside0 (kq≤kj10)∧Aside0 (w'.heap[aj]?=some (.cells #[.int .i64 af,.int .i64 ae,.int .i64 ad,(.slice am ac.length ag)] 45 (0,0)))∧Aside0 (Below w.heap.size w w'))
     case atStart=>exact⟨(0),TF,H',⟨Nat.le_refl _⟩,⟨TK⟩,⟨TB⟩⟩
     case round=>
      clear H';try clear cq1
      try clear cq2
      try clear cq3
      try clear aC
      try clear ap
      try clear aw
      try clear aq
      try clear av
      try clear au
      try clear ay
      try clear ax
      try clear ar
      obtain⟨xq2,rfl,HA,HKq1,aa,HB⟩:=hrel;cases gk with
      |zero=>exact absurd HA.out (by simp [spec_ManOk.l0])
      | succ k2=>
       have H:=HA.out;clear HA;simp only[spec_ManOk.l0] at H
       by_cases az:xq2<(ac.length:Int)
       ·rw[if_pos az] at H;have cq18:decide (xq2<(ac.length:Int))=true:=decide_eq_true az;clear az;replace H:=ifN H;obtain⟨cq19,H⟩:=H;have cq20:decide (0≤xq2)=true:=decide_eq_true cq19;clear cq19;replace H:=bE H;obtain⟨⟨tq1,tq2⟩,Aq1,H⟩:=H;dsimp only at H;replace H:=bE H;obtain⟨⟨tq3,tq4⟩,Aq2,H⟩:=H;dsimp only at H;obtain⟨aS,a8,aR,aZ⟩:=cz4 aa.out;obtain⟨aU,aW,bc,aX⟩:=fz4 aa.out;have pq2:0≤(xq2:Int):=DT;have qq1:xq2<(ac.length:Int):=DT;obtain⟨aA,eq1,aK,aJ⟩:=at_T96 aI.out xq2 pq2 qq1;cases eq1;replace aK:=(HB.out.cell (World.block_lt_of_cell? w _ aK)).trans aK;replace aJ:=(HB.out.cell (World.block_lt_of_cell? w _ aJ)).trans aJ;replace pq2:=eq_true pq2;replace qq1:=eq_true qq1;go_wp2_with (first|(refine g_C 112 ?_;refine gL (some 62) Tryz.func112 #[.int .i64 ((rd_T96 ac xq2).f1)] ?_;(with_reducible refine(spec_BytesOf.calls Aq1.out).mono ?_);rintro e wq2 ⟨vq3,rfl,hoq1,hb⟩;refine⟨_,rfl,?_⟩;have ab:=aM (Kd.R_lower hoq1 (below_size TB));replace aa:=mB aa hb;replace HB:=bS HB hb;clear hoq1 hb;obtain⟨hczq21,hczq22,hczq23,hczq24⟩:=cz4 aa.out;obtain⟨hfzq21,hfzq22,hfzq23,hfzq24⟩:=fz4 aa.out)|(refine g_C 56 ?_;refine g_D 71 ?_;generalize hG_:wpList _ _ _ _ _ _=G_))
        subst hG_
        by_cases aD:tq2=true
        ·subst aD;replace H:=ifT H
         by_cases ao:(tq1.length:Int)=tq4
         ·rw[if_pos ao] at H;have cq23:((tq1.length:Int)==tq4)=true:=beq_iff_eq.mpr ao;have cq24:((tq1.length:Int) != tq4)=false:=bne_eq_false_iff_eq.mpr ao;clear ao;replace H:=bE H;obtain⟨⟨tq5,tq6⟩,Aq3,H⟩:=H;dsimp only at H
          by_cases aB:(!(tq5==((rd_T96 ac xq2).f0))||(!(tq6==((rd_T96 ac xq2).f1))))=true
          ·rw[if_pos aB] at H;have cq26:(!(tq5==((rd_T96 ac xq2).f0))||(!(tq6==((rd_T96 ac xq2).f1))))=true:=aB;clear aB;obtain rfl:=o_I H;try go_wp2_with (first|(refine g_C 56 ?_;refine gL (some 71) Tryz.func56 #[.int .i64 ae,.int .i64 ad,.int .i64 xq2] ?_;(with_reducible refine(spec_SpanOf.calls Aq2.out).mono ?_);rintro e w' ⟨rfl,⟨nd,rfl⟩⟩;refine⟨_,rfl,?_⟩))
           (try (rw[drewN_self wq2];generalize hq_:World.drewN wq2 _=wq2;have n0_:Aside0 (Kd.R (Kd.int .u8) 5 wq2 w.heap.size (fun _=>True) vq3 tq1):=⟨by rw[← hq_];exact(TRf ab)⟩;have n1_:Aside0 (wq2.heap[aj]?=some (.cells #[.int .i64 af,.int .i64 ae,.int .i64 ad,.slice (some aA) ac.length ag] 45 (0,0))):=⟨by rw[← hq_];exact TK⟩;have n2_:Aside0 (Below w.heap.size w wq2):=⟨by rw[← hq_];exact TB⟩;clear ab aa HB hq_;have ab:=n0_;have aa:=n1_;have HB:=n2_;clear n0_ n1_ n2_));replace ab:=rD ab;replace aa:=bD aa;replace HB:=aM (below_drew1 HB.out);obtain⟨aE,aF,an⟩:=Kd.R_slice ab.out;(first|subst an|(injection an with f1_ f2_ f3_;have f4_:=f1_.symm;have f5_:=f3_.symm;clear f1_ f2_ f3_;subst f4_;subst f5_));have pq3:0≤(xq2:Int):=DT;have qq2:xq2<(ac.length:Int):=DT;obtain⟨aG,eq2,ai,ah⟩:=at_T96 aI.out xq2 pq3 qq2;have al:=ah;have ak:=ai;obtain rfl:aA=aG:=(by injection eq2);replace ai:=(HB.out.cell (World.block_lt_of_cell? w _ ai)).trans ai;replace ah:=(HB.out.cell (World.block_lt_of_cell? w _ ah)).trans ah;replace pq3:=eq_true pq3;replace qq2:=eq_true qq2;refine st_ (n:=18) (ds:=[]) (Array.replicate 18 false) (hJ4 aa.out (hX (b_W HB ak) (hE (b_W HB al)))) (by kernel_rfl) rfl rfl (fun hHeld=>?_);refine with_tabW spec_ManOk.tab10 spec_ManOk.bits10 (fun HT_ HW_=>?_);generalize wq2.drew=wq3 at ab aa HB ai ah hHeld ⊢;refine ppq 0 74 ?_;refine ppq 1 75 ?_;refine ppq 2 76 ?_;refine ppq 3 77 ?_;refine ppq 4 78 ?_;refine ppq 5 79 ?_;refine ppq 6 80 ?_;refine ppq 7 81 ?_;refine ppq 8 82 ?_;refine ppq 9 83 ?_;refine ppq 11 85 ?_;refine ppq 13 87 ?_;refine ptq 12 86 ?_;refine ppq 14 88 ?_;refine ptq 15 89 ?_;refine poq 10 84 (fun K hK=>?_);refine gG Tryz.func83 #[.slice aE tq1.length aF] ?_;with_reducible refine(spec_SumOf.calls ?side1 ?side2 Aq3.out).mono ?_
           (case side1=>have X_:=(Kd.R_reads' ab.out).2.2;exact TC);(case side2=>exact(Kd.R_reads' ab.out).2.1);rintro e wq4 ⟨rfl,hb⟩;refine⟨_,rfl,?_⟩;replace ab:=mR ab hb;replace aa:=mB aa hb;replace HB:=bS HB hb;(try clear hb);refine hK.out _ _ (cJ4 aa.out ⟨(b_W HB ak),(b_W HB al)⟩) (fun hHeld=>?_);clear hK K;refine nR ?_;refine ppq 16 90 ?_;refine ppq 17 91 ?_;refine done_ (done_of HT_.out (by kernel_rfl)) ?_;try go_wp2
           go_ret
           exact⟨TE,TB⟩
          ·rw[if_neg aB] at H;have cq26:(!(tq5==((rd_T96 ac xq2).f0))||(!(tq6==((rd_T96 ac xq2).f1))))=false:=by simpa using aB
           clear aB;have H':=aM H;clear H;try go_wp2_with (first|(refine g_C 56 ?_;refine gL (some 71) Tryz.func56 #[.int .i64 ae,.int .i64 ad,.int .i64 xq2] ?_;(with_reducible refine(spec_SpanOf.calls Aq2.out).mono ?_);rintro e w' ⟨rfl,⟨nd,rfl⟩⟩;refine⟨_,rfl,?_⟩))
           (try (rw[drewN_self wq2];generalize hq_:World.drewN wq2 _=wq2;have n0_:Aside0 (Kd.R (Kd.int .u8) 5 wq2 w.heap.size (fun _=>True) vq3 tq1):=⟨by rw[← hq_];exact(TRf ab)⟩;have n1_:Aside0 (wq2.heap[aj]?=some (.cells #[.int .i64 af,.int .i64 ae,.int .i64 ad,.slice (some aA) ac.length ag] 45 (0,0))):=⟨by rw[← hq_];exact TK⟩;have n2_:Aside0 (Below w.heap.size w wq2):=⟨by rw[← hq_];exact TB⟩;clear ab aa HB hq_;have ab:=n0_;have aa:=n1_;have HB:=n2_;clear n0_ n1_ n2_));replace ab:=rD ab;replace aa:=bD aa;replace HB:=aM (below_drew1 HB.out);obtain⟨aE,aF,an⟩:=Kd.R_slice ab.out;(first|subst an|(injection an with f1_ f2_ f3_;have f4_:=f1_.symm;have f5_:=f3_.symm;clear f1_ f2_ f3_;subst f4_;subst f5_));have pq3:0≤(xq2:Int):=DT;have qq2:xq2<(ac.length:Int):=DT;obtain⟨aG,eq2,ai,ah⟩:=at_T96 aI.out xq2 pq3 qq2;have al:=ah;have ak:=ai;obtain rfl:aA=aG:=(by injection eq2);replace ai:=(HB.out.cell (World.block_lt_of_cell? w _ ai)).trans ai;replace ah:=(HB.out.cell (World.block_lt_of_cell? w _ ah)).trans ah;replace pq3:=eq_true pq3;replace qq2:=eq_true qq2;refine st_ (n:=18) (ds:=[]) (Array.replicate 18 false) (hJ4 aa.out (hX (b_W HB ak) (hE (b_W HB al)))) (by kernel_rfl) rfl rfl (fun hHeld=>?_);refine with_tabW spec_ManOk.tab10 spec_ManOk.bits10 (fun HT_ HW_=>?_);generalize wq2.drew=wq3 at ab aa HB ai ah hHeld ⊢;refine ppq 0 74 ?_;refine ppq 1 75 ?_;refine ppq 2 76 ?_;refine ppq 3 77 ?_;refine ppq 4 78 ?_;refine ppq 5 79 ?_;refine ppq 6 80 ?_;refine ppq 7 81 ?_;refine ppq 8 82 ?_;refine ppq 9 83 ?_;refine ppq 11 85 ?_;refine ppq 13 87 ?_;refine ptq 12 86 ?_;refine ppq 14 88 ?_;refine ptq 15 89 ?_;refine poq 10 84 (fun K hK=>?_);refine gG Tryz.func83 #[.slice aE tq1.length aF] ?_;with_reducible refine(spec_SumOf.calls ?side1 ?side2 Aq3.out).mono ?_
           (case side1=>have X_:=(Kd.R_reads' ab.out).2.2;exact TC);(case side2=>exact(Kd.R_reads' ab.out).2.1);rintro e wq4 ⟨rfl,hb⟩;refine⟨_,rfl,?_⟩;replace ab:=mR ab hb;replace aa:=mB aa hb;replace HB:=bS HB hb;(try clear hb);refine hK.out _ _ (cJ4 aa.out ⟨(b_W HB ak),(b_W HB al)⟩) (fun hHeld=>?_);clear hK K;refine nR ?_;refine ppq 16 90 ?_;refine ppq 17 91 ?_;refine done_ (done_of HT_.out (by kernel_rfl)) ?_;try go_wp2
           go_roundg k2
           case measure=>have:=HJq1.out;have:=HKq1.out;omega
           case rel=>exact⟨(wrap64 (xq2+1)),TF,H',⟨by have:=HJq1.out;have:=HKq1.out;omega⟩,⟨TK⟩,⟨TB⟩⟩
         ·rw[if_neg ao] at H;have cq23:((tq1.length:Int)==tq4)=false:=beq_eq_false_iff_ne.mpr ao;have cq24:((tq1.length:Int) != tq4)=true:=bne_iff_ne.mpr ao;obtain rfl:=o_I H;try go_wp2_with (first|(refine g_C 56 ?_;refine gL (some 71) Tryz.func56 #[.int .i64 ae,.int .i64 ad,.int .i64 xq2] ?_;(with_reducible refine(spec_SpanOf.calls Aq2.out).mono ?_);rintro e w' ⟨rfl,⟨nd,rfl⟩⟩;refine⟨_,rfl,?_⟩))
          (try (rw[drewN_self wq2];generalize hq_:World.drewN wq2 _=wq2;have n0_:Aside0 (Kd.R (Kd.int .u8) 5 wq2 w.heap.size (fun _=>True) vq3 tq1):=⟨by rw[← hq_];exact(TRf ab)⟩;have n1_:Aside0 (wq2.heap[aj]?=some (.cells #[.int .i64 af,.int .i64 ae,.int .i64 ad,.slice (some aA) ac.length ag] 45 (0,0))):=⟨by rw[← hq_];exact TK⟩;have n2_:Aside0 (Below w.heap.size w wq2):=⟨by rw[← hq_];exact TB⟩;clear ab aa HB hq_;have ab:=n0_;have aa:=n1_;have HB:=n2_;clear n0_ n1_ n2_));replace ab:=rD ab;replace aa:=bD aa;replace HB:=aM (below_drew1 HB.out);obtain⟨aE,aF,an⟩:=Kd.R_slice ab.out;(first|subst an|(injection an with f1_ f2_ f3_;have f4_:=f1_.symm;have f5_:=f3_.symm;clear f1_ f2_ f3_;subst f4_;subst f5_));refine start_ (n:=18) (S:=fun w'=>True) (ds:=[]) (Array.replicate 18 false) (by kernel_rfl) rfl rfl trivial (fun hHeld=>?_);refine with_tabW spec_ManOk.tab10 spec_ManOk.bits10 (fun HT_ HW_=>?_);generalize wq2.drew=wq3 at ab aa HB hHeld ⊢;refine ppq 0 74 ?_;refine ppq 1 75 ?_;refine ppq 2 76 ?_;refine ppq 3 77 ?_;refine ppq 4 78 ?_;refine ppq 5 79 ?_;refine ppq 6 80 ?_;exact Yq5_2
        ·replace aD:=b_F aD;subst aD;replace H:=ifF H;obtain rfl:=o_I H;try go_wp2_with (first|(refine g_C 56 ?_;refine gL (some 71) Tryz.func56 #[.int .i64 ae,.int .i64 ad,.int .i64 xq2] ?_;(with_reducible refine(spec_SpanOf.calls Aq2.out).mono ?_);rintro e w' ⟨rfl,⟨nd,rfl⟩⟩;refine⟨_,rfl,?_⟩))
         (try (rw[drewN_self wq2];generalize hq_:World.drewN wq2 _=wq2;have n0_:Aside0 (Kd.R (Kd.int .u8) 5 wq2 w.heap.size (fun _=>True) vq3 tq1):=⟨by rw[← hq_];exact(TRf ab)⟩;have n1_:Aside0 (wq2.heap[aj]?=some (.cells #[.int .i64 af,.int .i64 ae,.int .i64 ad,.slice (some aA) ac.length ag] 45 (0,0))):=⟨by rw[← hq_];exact TK⟩;have n2_:Aside0 (Below w.heap.size w wq2):=⟨by rw[← hq_];exact TB⟩;clear ab aa HB hq_;have ab:=n0_;have aa:=n1_;have HB:=n2_;clear n0_ n1_ n2_));replace ab:=rD ab;replace aa:=bD aa;replace HB:=aM (below_drew1 HB.out);refine start_ (n:=18) (S:=fun w'=>True) (ds:=[]) (Array.replicate 18 false) (by kernel_rfl) rfl rfl trivial (fun hHeld=>?_);refine with_tabW spec_ManOk.tab10 spec_ManOk.bits10 (fun HT_ HW_=>?_);generalize wq2.drew=wq3 at ab aa HB hHeld ⊢;refine ppq 0 74 ?_;refine ppq 1 75 ?_;refine ppq 2 76 ?_;refine pxq 3 77 ?_;refine pxq 4 78 ?_;refine pxq 5 79 ?_;refine pxq 6 80 ?_;exact Yq5_2
       ·rw[if_neg az] at H;have cq18:decide (xq2<(ac.length:Int))=false:=decide_eq_false az;clear az;obtain rfl:=o_I H;obtain⟨aS,a8,aR,aZ⟩:=cz4 aa.out;obtain⟨aU,aW,bc,aX⟩:=fz4 aa.out;go_wp2
        go_ret
        exact⟨TE,TB⟩
end Go.Proofs.YtjgmkkogmfogbaaGreat.Q
