/- Functions of the program as plain Lean functions, and that a call of each comes to what its function tells. -/
import Derived.Test.YtjgmkkogmfogbaaGreatQ5
import Derived.Test.YtjgmkkogmfogbaaGreatQ25
set_option maxHeartbeats 40000000
set_option maxRecDepth 100000
namespace Go.Proofs.YtjgmkkogmfogbaaGreat.Q
open Go.RowKit Go.Proofs.YtjgmkkogmfogbaaGreatW.PrintWords Go.Proofs.YtjgmkkogmfogbaaGreatW.PrintLast Go.Proofs.YtjgmkkogmfogbaaGreatW.PrintMore
attribute [local go_sem] min2_int min_two
set_option linter.unusedVariables false
set_option linter.unusedSimpArgs false
attribute [local go_sem high] eqA96
theorem Zq27_0 {p:Prop}(h:p:=by exact Kd.V_mk aI.out (Kd.F_below (Kd.C_F (Kd.heap_int .u8) aL.out) TB)):p:=h
theorem Zq27_1 {p:Prop}(h:p:=by repeat (first|exact(Kd.C_below ar.out TB)|(with_reducible refine Kd.C_alloc ?_ _)|(with_reducible refine Kd.C_drewN ?_ _)|(with_reducible refine Kd.C_drew ?_))):p:=h
mutual
def impl_BuildOk.j0 :Nat→Bool→Int→Int→Int→List (S96)→Int→List Int→Option (Bool)
  |0,_,_,_,_,_,_,_=>none
  |k+1,g,b,c,d,a,e,f=>if g=true then (some false) else (impl_BuildOk.l0 k a (a.length:Int) 0 b c d a e f)
def impl_BuildOk.l0 :Nat→List (S96)→Int→Int→Int→Int→Int→List (S96)→Int→List Int→Option (Bool)
  |0,_,_,_,_,_,_,_,_,_=>none
  |k+1,h,i,b,c,d,e,f,a,g=>if b<i then (if 0≤b then (if b<(h.length:Int) then ((impl_Build_block.f a g c d e f b).bind fun j=>((impl_InSet.f a b).bind fun m=>(if m=true then ((impl_SumOf.f k j).bind fun l=>(if (!(l.1==((rd_T96 h b).f0))||(!(l.2==((rd_T96 h b).f1))))=true then (some false) else ((impl_InSet.f a b).bind fun n=>(if n=true then (impl_BuildOk.l0 k h i (wrap64 (b+1)) c d e f a g) else ((slices_ContainsFunc_byte_byte.f k j).bind fun o=>(if o=true then (some false) else (impl_BuildOk.l0 k h i (wrap64 (b+1)) c d e f a g))))))) else ((impl_InSet.f a b).bind fun p=>(if p=true then (impl_BuildOk.l0 k h i (wrap64 (b+1)) c d e f a g) else ((slices_ContainsFunc_byte_byte.f k j).bind fun q=>(if q=true then (some false) else (impl_BuildOk.l0 k h i (wrap64 (b+1)) c d e f a g)))))))) else (none)) else (none)) else (some true)
end
def impl_BuildOk.f (k:Nat)(b:Int)(c:Int)(a:Int)(d:List (S96))(e:Int)(f:List Int):Option (Bool):=(impl_ManOk.f k b c a d).bind fun g=>(if g=true then ((impl_SetOk.f e).bind fun h=>(if h=true then ((impl_AllParts.f b c a d).bind fun i=>(if (Go.bits .andNot .i64 e i)=0 then (impl_BuildOk.j0 k ((f.length:Int) != a) b c a d e f) else (impl_BuildOk.j0 k true b c a d e f))) else (impl_BuildOk.j0 k true b c a d e f))) else (impl_BuildOk.j0 k true b c a d e f))
theorem impl_BuildOk.mono_l :∀k,(∀a b c d e f g,LeO (impl_BuildOk.j0 k a b c d e f g) (impl_BuildOk.j0 (k+1) a b c d e f g))∧(∀a b c d e f g h i,LeO (impl_BuildOk.l0 k a b c d e f g h i) (impl_BuildOk.l0 (k+1) a b c d e f g h i))
  |0=>⟨fun _ _ _ _ _ _ _ r h=>by simp [impl_BuildOk.j0] at h,fun _ _ _ _ _ _ _ _ _ r h=>by simp [impl_BuildOk.l0] at h⟩
  | k+1=>by
    have m0_:=@impl_ManOk.mono
    have m1_:=@impl_SumOf.mono
    have m2_:=@slices_ContainsFunc_byte_byte.mono
    obtain⟨ih0,ih1⟩:=impl_BuildOk.mono_l k
    refine⟨?_,?_⟩
    · intro y0 y1 y2 y3 y4 y5 y6
      unfold impl_BuildOk.j0
      exact LM
    · intro y0 y1 y2 y3 y4 y5 y6 y7 y8
      unfold impl_BuildOk.l0
      exact LM
theorem impl_BuildOk.mono :∀a b c d e f k,LeO (impl_BuildOk.f k a b c d e f) (impl_BuildOk.f (k+1) a b c d e f):=by
  intro a0 a1 a2 a3 a4 a5 k;have m0_:=@impl_ManOk.mono;have m1_:=@impl_SumOf.mono;have m2_:=@slices_ContainsFunc_byte_byte.mono;obtain⟨ih0,ih1⟩:=impl_BuildOk.mono_l k;unfold impl_BuildOk.f;exact LM
def impl_BuildOk.T1 :Bool×List (List Nat×List Nat):=(true,[([],[]),([0],[0]),([1],[1]),([2,1],[2]),([3],[3]),([4,3],[3,4]),([5,3,3],[3,5]),([6,3],[3,6]),([3,7],[3,7]),([8,6],[8]),([9],[9]),([10,9],[9,10]),([9],[9]),([12,9,9],[9,12]),([11,13,9],[9,11,13]),([14,9],[9,14]),([9,15],[9,15]),([16,13],[16]),([17],[17]),([18,17],[17,18]),([19,17],[17,19]),([17],[17]),([21,17],[17,21]),([20,22,17],[17,20,22]),([17,23],[17,23])])
def impl_BuildOk.B1 :List Nat:=[0,1,3,7,15,31,63,127,255,511,1023,2047,1023,5119,16383,32767,65535,131071,262143,524287,1048575,262143,2359295,8388607,16777215]
theorem impl_BuildOk.tab1 :rtab .any (opsOf Tryz.f64 1)=impl_BuildOk.T1:=by kernel_rfl
theorem impl_BuildOk.bits1 :waitsOk impl_BuildOk.T1.2 impl_BuildOk.B1=true:=by kernel_rfl
def impl_BuildOk.T7 :Bool×List (List Nat×List Nat):=(true,[([],[]),([0],[0]),([],[]),([1,2],[1,2]),([3,3],[3]),([4],[4]),([5,4,4],[4,5]),([4],[4]),([6,7,4],[4,6,7]),([4,8],[4,8]),([9,6],[9]),([10],[10]),([11,10],[10,11]),([10],[10]),([12,13,10,10],[10,12,13]),([14,10],[10,14]),([15,14,10],[10,15]),([16],[16]),([17,16,16],[16,17]),([16,18,10],[10,16,18]),([10,19],[10,19])])
def impl_BuildOk.B7 :List Nat:=[0,1,0,7,15,31,63,31,255,511,1023,2047,4095,2047,16383,32767,65535,131071,262143,524287,1048575]
theorem impl_BuildOk.tab7 :rtab .any (opsOf Tryz.f64 7)=impl_BuildOk.T7:=by kernel_rfl
theorem impl_BuildOk.bits7 :waitsOk impl_BuildOk.T7.2 impl_BuildOk.B7=true:=by kernel_rfl
theorem Yq27_1 {p:Prop}(h:p:=by
 try go_wp2
 go_roundg k2
 case measure=>have:=ax.out;have:=aA.out;omega
 case rel=>exact⟨(wrap64 (xq2+1)),TF,H',⟨by have:=ax.out;have:=aA.out;omega⟩,⟨TK⟩,⟨TK⟩,⟨TB⟩⟩):p:=h
theorem Yq27_0 {p:Prop}(h:p:=by
 refine ppq 16 24 ?_;refine ppq 17 25 ?_;refine pxq 18 26 ?_;refine pxq 19 27 ?_;refine pxq 20 28 ?_;refine pxq 21 29 ?_;refine pxq 22 30 ?_;refine pxq 23 31 ?_;refine ppq 24 32 ?_;refine done_ (done_of HT_.out (by kernel_rfl)) ?_;try go_wp2
 go_meet
 case rel=>exact⟨_,(true),TF,H',⟨by first|omega|exact Nat.le_refl _⟩,⟨TK⟩,⟨TK⟩,⟨TB⟩⟩):p:=h
theorem impl_BuildOk.calls {k:Nat}{ah:Int}{ag:Int}{af:Int}{au:Option Addr}{ak:Nat}{ac:List (S96)}{ad:Int}{al:Option Addr}{am:Nat}{aj:List Int}{r:Bool}{w:World}(aR:Kd.C k96 w au ac.length ac)(aS:ac.length≤ak)(aT:Kd.C (Kd.int .u8) w al aj.length aj)(aQ:aj.length≤am)(h:impl_BuildOk.f k ah ag af ac ad aj=some r):
  Calls Tryz.prog 64 #[.agg #[.int .i64 ah,.int .i64 ag,.int .i64 af,.slice au ac.length ak],.agg #[.int .i64 ad,.slice al aj.length am]] w fun e w'=>e=.returned (.bool r)∧Below w.heap.size w w':=by
 have huq1:=Tryz.underlying45;have huq2:=Tryz.underlying47;have huq3:=Tryz.underlying96;have ar:=aM aR;have av:=aM aS;clear aR aS;have aL:=aM aT;have aI:=aM aQ;clear aT aQ;have HB:=aM (Below.refl w.heap.size w);have H:=h;clear h;unfold impl_BuildOk.f at H;have aN:=aM H;clear H;go_enter Tryz.func64,Tryz.ntmps64;go_upto_region 1 with (first|(refine g_D 2 ?_;(try (refine gate_guard (by rfl) ?_;dsimp only));refine gBx 2 #[.int .i64 ah,.int .i64 ag,.int .i64 af,.slice au ac.length ak] 45 ?_;intro aw hg wq1 hbox hb;have ab:=aM (hbox);have GWq1:=gW HB hg;have GEq1:=gW HB hg;replace HB:=bS HB hb;clear hb hbox hg)|(refine g_D 3 ?_;(try (refine gate_guard (by rfl) ?_;dsimp only));refine gBx 3 #[.int .i64 ad,.slice al aj.length am] 47 ?_;intro gbq2 hg wq2 hbox hb;have aa:=aM (hbox);have GWq2:=gW HB hg;have GEq2:=gW HB hg;obtain⟨NBq1,NBq2⟩:=nB ab hg;replace ab:=mB ab hb;replace HB:=bS HB hb;clear hb hbox hg))
 (try simp only[NP])
 go_cut [32] (fun vq1 wc=>∃(kq:Nat) (xq1:Bool),vq1=.bool xq1∧Aside0 (impl_BuildOk.j0 kq xq1 ah ag af ac ad aj=some r)∧Aside0 (kq≤k)∧Aside0 (wc.heap[aw]?=some (.cells #[.int .i64 ah,.int .i64 ag,.int .i64 af,(.slice au ac.length ak)] 45 (0,0)))∧Aside0 (wc.heap[gbq2]?=some (.cells #[.int .i64 ad,(.slice al aj.length am)] 47 (0,0)))∧Aside0 (Below w.heap.size w wc))
 case first=>
  have H:=aN.out;clear aN;replace H:=bE H;obtain⟨t655,Aq1,H⟩:=H
  by_cases cq1:t655=true
  ·subst cq1;replace H:=ifT H;replace H:=bE H;obtain⟨t656,Aq2,H⟩:=H
   by_cases cq2:t656=true
   ·subst cq2;replace H:=ifT H;replace H:=bE H;obtain⟨aC,Aq3,H⟩:=H
    by_cases cq3:(Go.bits .andNot .i64 ad aC)=0
    ·rw[if_pos cq3] at H;have cq4:((Go.bits .andNot .i64 ad aC)==0)=true:=beq_iff_eq.mpr cq3;have cq5:((Go.bits .andNot .i64 ad aC) != 0)=false:=bne_eq_false_iff_eq.mpr cq3;clear cq3;(first|rw[cq4]|(simp only[i64_w,i32_w];rw[cq4])|skip);have H':=aM H;clear H;try go_wp2
     replace ab:=bD ab;replace aa:=bD aa;replace HB:=aM (below_drew1 HB.out);refine st_ (n:=25) (ds:=[]) (Array.replicate 25 false) (hJ4 ab.out (hK2 aa.out)) (by kernel_rfl) rfl rfl (fun hHeld=>?_);refine with_tabW impl_BuildOk.tab1 impl_BuildOk.bits1 (fun HT_ HW_=>?_);generalize wq2.drew=wq3 at ab aa HB hHeld ⊢;refine ptq 0 8 ?_;refine poq 1 9 (fun K hK=>?_);refine gG Tryz.func92 #[.agg #[.int .i64 ah,.int .i64 ag,.int .i64 af,.slice au ac.length ak]] ?_;with_reducible refine(impl_ManOk.calls ?side1 ?side2 Aq1.out).mono ?_
     (case side1=>have X_:=(Kd.C_below ar.out HB.out);exact TC);(case side2=>exact av.out);rintro e wq4 ⟨rfl,hb⟩;refine⟨_,rfl,?_⟩;replace ab:=mB ab hb;replace aa:=mB aa hb;replace HB:=bS HB hb;(try clear hb);refine hK.out _ _ (cJ4 ab.out (cK2 aa.out)) (fun hHeld=>?_);clear hK K;refine nR ?_;refine ppq 2 10 ?_;refine ppq 3 11 ?_;refine ppq 4 12 ?_;refine ptq 5 13 ?_;refine poq 6 14 (fun K hK=>?_);refine gG Tryz.func93 #[.int .i64 ad] ?_;with_reducible refine(impl_SetOk.calls Aq2.out).mono ?_
     rintro e w' ⟨rfl,⟨nd,rfl⟩⟩;refine⟨_,rfl,?_⟩;refine hK.out _ _ (cJ4 ab.out (cK2 aa.out)) (fun hHeld=>?_);clear hK K;refine nR ?_;refine ppq 7 15 ?_;refine ppq 8 16 ?_;refine ppq 9 17 ?_;refine ppq 10 18 ?_;refine ptq 11 19 ?_;refine ptq 12 20 ?_;refine poq 13 21 (fun K hK=>?_);refine gG Tryz.func94 #[.agg #[.int .i64 ah,.int .i64 ag,.int .i64 af,.slice au ac.length ak]] ?_;with_reducible refine(impl_AllParts.calls ?side1 ?side2 Aq3.out).mono ?_
     (case side1=>exact Zq27_1);(case side2=>exact av.out);rintro e wq5 ⟨rfl,hb⟩;refine⟨_,rfl,?_⟩;replace ab:=mB ab hb;replace aa:=mB aa hb;replace HB:=bS HB hb;(try clear hb);refine hK.out _ _ (cJ4 ab.out (cK2 aa.out)) (fun hHeld=>?_);clear hK K;refine nR ?_;refine ppq 14 22 ?_;refine ppq 15 23 ?_;refine ppq 16 24 ?_;refine ppq 17 25 ?_;refine ppq 18 26 ?_;refine ppq 21 29 ?_;refine ptq 19 27 ?_;refine ppq 20 28 ?_;refine ptq 22 30 ?_;refine ppq 23 31 ?_;refine ppq 24 32 ?_;refine done_ (done_of HT_.out (by kernel_rfl)) ?_;try go_wp2
     go_meet
     case rel=>exact⟨_,(((aj.length:Int) != af)),TF,H',⟨by first|omega|exact Nat.le_refl _⟩,⟨TK⟩,⟨TK⟩,⟨TB⟩⟩
    ·rw[if_neg cq3] at H;have cq4:((Go.bits .andNot .i64 ad aC)==0)=false:=beq_eq_false_iff_ne.mpr cq3;have cq5:((Go.bits .andNot .i64 ad aC) != 0)=true:=bne_iff_ne.mpr cq3;(first|rw[cq4]|(simp only[i64_w,i32_w];rw[cq4])|skip);have H':=aM H;clear H;try go_wp2
     replace ab:=bD ab;replace aa:=bD aa;replace HB:=aM (below_drew1 HB.out);refine st_ (n:=25) (ds:=[]) (Array.replicate 25 false) (hJ4 ab.out (hK2 aa.out)) (by kernel_rfl) rfl rfl (fun hHeld=>?_);refine with_tabW impl_BuildOk.tab1 impl_BuildOk.bits1 (fun HT_ HW_=>?_);generalize wq2.drew=wq3 at ab aa HB hHeld ⊢;refine ptq 0 8 ?_;refine poq 1 9 (fun K hK=>?_);refine gG Tryz.func92 #[.agg #[.int .i64 ah,.int .i64 ag,.int .i64 af,.slice au ac.length ak]] ?_;with_reducible refine(impl_ManOk.calls ?side1 ?side2 Aq1.out).mono ?_
     (case side1=>have X_:=(Kd.C_below ar.out HB.out);exact TC);(case side2=>exact av.out);rintro e wq4 ⟨rfl,hb⟩;refine⟨_,rfl,?_⟩;replace ab:=mB ab hb;replace aa:=mB aa hb;replace HB:=bS HB hb;(try clear hb);refine hK.out _ _ (cJ4 ab.out (cK2 aa.out)) (fun hHeld=>?_);clear hK K;refine nR ?_;refine ppq 2 10 ?_;refine ppq 3 11 ?_;refine ppq 4 12 ?_;refine ptq 5 13 ?_;refine poq 6 14 (fun K hK=>?_);refine gG Tryz.func93 #[.int .i64 ad] ?_;with_reducible refine(impl_SetOk.calls Aq2.out).mono ?_
     rintro e w' ⟨rfl,⟨nd,rfl⟩⟩;refine⟨_,rfl,?_⟩;refine hK.out _ _ (cJ4 ab.out (cK2 aa.out)) (fun hHeld=>?_);clear hK K;refine nR ?_;refine ppq 7 15 ?_;refine ppq 8 16 ?_;refine ppq 9 17 ?_;refine ppq 10 18 ?_;refine ptq 11 19 ?_;refine ptq 12 20 ?_;refine poq 13 21 (fun K hK=>?_);refine gG Tryz.func94 #[.agg #[.int .i64 ah,.int .i64 ag,.int .i64 af,.slice au ac.length ak]] ?_;with_reducible refine(impl_AllParts.calls ?side1 ?side2 Aq3.out).mono ?_
     (case side1=>exact Zq27_1);(case side2=>exact av.out);rintro e wq5 ⟨rfl,hb⟩;refine⟨_,rfl,?_⟩;replace ab:=mB ab hb;replace aa:=mB aa hb;replace HB:=bS HB hb;(try clear hb);refine hK.out _ _ (cJ4 ab.out (cK2 aa.out)) (fun hHeld=>?_);clear hK K;refine nR ?_;refine ppq 14 22 ?_;refine ppq 15 23 ?_;exact Yq27_0
   ·replace cq2:=b_F cq2;subst cq2;replace H:=ifF H;have H':=aM H;clear H;try go_wp2
    replace ab:=bD ab;replace aa:=bD aa;replace HB:=aM (below_drew1 HB.out);refine st_ (n:=25) (ds:=[]) (Array.replicate 25 false) (hJ4 ab.out (hK2 aa.out)) (by kernel_rfl) rfl rfl (fun hHeld=>?_);refine with_tabW impl_BuildOk.tab1 impl_BuildOk.bits1 (fun HT_ HW_=>?_);generalize wq2.drew=wq3 at ab aa HB hHeld ⊢;refine ptq 0 8 ?_;refine poq 1 9 (fun K hK=>?_);refine gG Tryz.func92 #[.agg #[.int .i64 ah,.int .i64 ag,.int .i64 af,.slice au ac.length ak]] ?_;with_reducible refine(impl_ManOk.calls ?side1 ?side2 Aq1.out).mono ?_
    (case side1=>have X_:=(Kd.C_below ar.out HB.out);exact TC);(case side2=>exact av.out);rintro e wq4 ⟨rfl,hb⟩;refine⟨_,rfl,?_⟩;replace ab:=mB ab hb;replace aa:=mB aa hb;replace HB:=bS HB hb;(try clear hb);refine hK.out _ _ (cJ4 ab.out (cK2 aa.out)) (fun hHeld=>?_);clear hK K;refine nR ?_;refine ppq 2 10 ?_;refine ppq 3 11 ?_;refine ppq 4 12 ?_;refine ptq 5 13 ?_;refine poq 6 14 (fun K hK=>?_);refine gG Tryz.func93 #[.int .i64 ad] ?_;with_reducible refine(impl_SetOk.calls Aq2.out).mono ?_
    rintro e w' ⟨rfl,⟨nd,rfl⟩⟩;refine⟨_,rfl,?_⟩;refine hK.out _ _ (cJ4 ab.out (cK2 aa.out)) (fun hHeld=>?_);clear hK K;refine nR ?_;refine ppq 7 15 ?_;refine ppq 8 16 ?_;refine ppq 9 17 ?_;refine pxq 10 18 ?_;refine pxq 11 19 ?_;refine pxq 12 20 ?_;refine pxq 13 21 ?_;refine pxq 14 22 ?_;refine pxq 15 23 ?_;exact Yq27_0
  ·replace cq1:=b_F cq1;subst cq1;replace H:=ifF H;have H':=aM H;clear H;try go_wp2
   replace ab:=bD ab;replace aa:=bD aa;replace HB:=aM (below_drew1 HB.out);refine st_ (n:=25) (ds:=[]) (Array.replicate 25 false) (hK4 ab.out) (by kernel_rfl) rfl rfl (fun hHeld=>?_);refine with_tabW impl_BuildOk.tab1 impl_BuildOk.bits1 (fun HT_ HW_=>?_);generalize wq2.drew=wq3 at ab aa HB hHeld ⊢;refine ptq 0 8 ?_;refine poq 1 9 (fun K hK=>?_);refine gG Tryz.func92 #[.agg #[.int .i64 ah,.int .i64 ag,.int .i64 af,.slice au ac.length ak]] ?_;with_reducible refine(impl_ManOk.calls ?side1 ?side2 Aq1.out).mono ?_
   (case side1=>have X_:=(Kd.C_below ar.out HB.out);exact TC);(case side2=>exact av.out);rintro e wq4 ⟨rfl,hb⟩;refine⟨_,rfl,?_⟩;replace ab:=mB ab hb;replace aa:=mB aa hb;replace HB:=bS HB hb;(try clear hb);refine hK.out _ _ (cz4 ab.out) (fun hHeld=>?_);clear hK K;refine nR ?_;refine ppq 2 10 ?_;refine ppq 3 11 ?_;refine pxq 4 12 ?_;refine pxq 5 13 ?_;refine pxq 6 14 ?_;refine pxq 7 15 ?_;refine ppq 8 16 ?_;refine ppq 9 17 ?_;refine pxq 10 18 ?_;refine pxq 11 19 ?_;refine pxq 12 20 ?_;refine pxq 13 21 ?_;refine pxq 14 22 ?_;refine pxq 15 23 ?_;exact Yq27_0
 case rest=>
  clear aN;obtain⟨kq,xq1,rfl,HA,ax,ab,aa,HB⟩:=hcut;cases kq with
  |zero=>exact absurd HA.out (by simp [impl_BuildOk.j0])
  | succ kj2=>
   have H:=HA.out;clear HA;simp only[impl_BuildOk.j0] at H
   by_cases cq7:xq1=true
   ·subst cq7;replace H:=ifT H;obtain rfl:=o_I H;go_wp2
    go_ret
    exact⟨TE,TB⟩
   ·replace cq7:=b_F cq7;subst cq7;replace H:=ifF H;have H':=aM H;clear H;obtain⟨hnbq1,hncq1⟩:=oB NBq1;obtain⟨hczq1,hczq2,hczq3,hczq4⟩:=cz4 ab.out;obtain⟨hfzq1,hfzq2,hfzq3,hfzq4⟩:=fz4 ab.out;go_wp2
    go_loopg [36] kj2 (fun kq vq2 w'=>∃(xq2:Int),vq2=.int .i64 xq2∧Aside0 (impl_BuildOk.l0 kq ac (ac.length:Int) xq2 ah ag af ac ad aj=some r)∧Aside0 (kq≤kj2)∧Aside0 (w'.heap[aw]?=some (.cells #[.int .i64 ah,.int .i64 ag,.int .i64 af,(.slice au ac.length ak)] 45 (0,0)))∧Aside0 (w'.heap[gbq2]?=some (.cells #[.int .i64 ad,(.slice al aj.length am)] 47 (0,0)))∧Aside0 (Below w.heap.size w w'))
    case atStart=>exact⟨(0),TF,H',⟨Nat.le_refl _⟩,⟨TK⟩,⟨TK⟩,⟨TB⟩⟩
    case round=>
     clear H';try clear cq7
     try clear hczq1
     try clear hczq2
     try clear hczq3
     try clear hczq4
     try clear hfzq1
     try clear hfzq2
     try clear hfzq3
     try clear hfzq4
     obtain⟨xq2,rfl,HA,aA,ab,aa,HB⟩:=hrel;cases gk with
     |zero=>exact absurd HA.out (by simp [impl_BuildOk.l0])
     | succ k2=>
      have H:=HA.out;clear HA;simp only[impl_BuildOk.l0] at H
      by_cases aG:xq2<(ac.length:Int)
      ·rw[if_pos aG] at H;have cq11:decide (xq2<(ac.length:Int))=true:=decide_eq_true aG;clear aG;replace H:=ifN H;obtain⟨cq12,H⟩:=H;have cq13:decide (0≤xq2)=true:=decide_eq_true cq12;clear cq12;replace H:=ifN H;obtain⟨cq14,H⟩:=H;have cq15:decide (xq2<(ac.length:Int))=true:=decide_eq_true cq14;clear cq14;replace H:=bE H;obtain⟨an,Aq1,H⟩:=H;replace H:=bE H;obtain⟨t663,Aq2,H⟩:=H;have pq2:0≤(xq2:Int):=DT;have qq1:xq2<(ac.length:Int):=DT;obtain⟨ay,eq1,aP,aO⟩:=at_T96 ar.out xq2 pq2 qq1;cases eq1;replace aP:=(HB.out.cell (World.block_lt_of_cell? w _ aP)).trans aP;replace aO:=(HB.out.cell (World.block_lt_of_cell? w _ aO)).trans aO;replace pq2:=eq_true pq2;replace qq1:=eq_true qq1;go_wp2_with (first|(refine g_D 6 ?_;(try (refine gate_guard (by rfl) ?_;dsimp only));refine gBx 6 #[.int .i64 0,.int .i64 0] 96 ?_;intro ao hg wq3 hbox hb;have ae:=aM (hbox);have GWq3:=gW HB hg;have GEq3:=gW HB hg;obtain⟨NBq3,NBq4⟩:=nB ab hg;obtain⟨NBq5,NBq6⟩:=nB aa hg;replace ab:=mB ab hb;replace aa:=mB aa hb;replace HB:=bS HB hb;clear hb hbox hg;obtain⟨hnbq2,hncq2⟩:=oB NBq4;obtain⟨hnbq3,hncq3⟩:=oB NBq6;obtain⟨hczq5,hczq6⟩:=cz2 ae.out;obtain⟨hfzq5,hfzq6⟩:=fz2 ae.out;obtain⟨hnbq4,hncq4⟩:=oB NBq2;obtain⟨hczq7,hczq8⟩:=cz2 aa.out;obtain⟨hfzq7,hfzq8⟩:=fz2 aa.out;obtain⟨hczq9,hczq10,hczq11,hczq12⟩:=cz4 ab.out;obtain⟨hfzq9,hfzq10,hfzq11,hfzq12⟩:=fz4 ab.out)|(refine g_C 95 ?_;refine g_D 44 ?_;generalize hG_:wpList _ _ _ _ _ _=G_))
       subst hG_
       by_cases aJ:t663=true
       ·subst aJ;replace H:=ifT H;replace H:=bE H;obtain⟨⟨tq1,tq2⟩,Aq3,H⟩:=H;dsimp only at H
        by_cases ap:(!(tq1==((rd_T96 ac xq2).f0))||(!(tq2==((rd_T96 ac xq2).f1))))=true
        ·rw[if_pos ap] at H;have aD:(!(tq1==((rd_T96 ac xq2).f0))||(!(tq2==((rd_T96 ac xq2).f1))))=true:=ap;clear ap;obtain rfl:=o_I H;try go_wp2_with (first|(refine g_C 95 ?_;refine gL (some 44) Tryz.func95 #[.agg #[.int .i64 ad,.slice al aj.length am],.agg #[.int .i64 ah,.int .i64 ag,.int .i64 af,.slice (some ay) ac.length ak],.int .i64 xq2] ?_;(with_reducible refine(impl_Build_block.calls (fun k_=>k_<w.heap.size) _ _ aj ah ag af _ _ ac xq2 an _ ?side1 ?side2 ?side3 Aq1.out).mono ?_);(case side1=>exact Zq27_0);(case side2=>exact Kd.C_below ar.out TB);(case side3=>exact av.out);rintro e wq4 ⟨vq3,rfl,aq,hb⟩;refine⟨_,rfl,?_⟩;have ai:=aM (Kd.V_lower (Kd.V_mono (ok':=fun k_=>k_≠aw∧k_≠gbq2∧k_≠ao) aq (fun k_ hk_=>⟨Or.elim hk_ (fun hs_=>fun e_=>Nat.not_le.2 hs_ (by rw[e_];exact GWq1.out)) (fun hn_=>(Kd.freshB (g:=aw) (o:=.cells #[.int .i64 ah,.int .i64 ag,.int .i64 af,.slice (some ay) ac.length ak] 45 (0,0)) (TZ ab) k_ hn_)),Or.elim hk_ (fun hs_=>fun e_=>Nat.not_le.2 hs_ (by rw[e_];exact GWq2.out)) (fun hn_=>(Kd.freshB (g:=gbq2) (o:=.cells #[.int .i64 ad,.slice al aj.length am] 47 (0,0)) (TZ aa) k_ hn_)),Or.elim hk_ (fun hs_=>fun e_=>Nat.not_le.2 hs_ (by rw[e_];exact GWq3.out)) (fun hn_=>(Kd.freshB (g:=ao) (o:=.cells #[.int .i64 ((rd_T96 ac xq2).f0),.int .i64 ((rd_T96 ac xq2).f1)] 96 (0,0)) (blk_put (blk_put (cs:=#[.int .i64 0,.int .i64 0]) (TZ ae) 0 _ rfl) 1 _ rfl) k_ hn_))⟩)) (below_size TB));replace ab:=mB ab hb;replace aa:=mB aa hb;replace ae:=aM (blk_below (g:=ao) (o:=.cells #[.int .i64 ((rd_T96 ac xq2).f0),.int .i64 ((rd_T96 ac xq2).f1)] 96 (0,0)) (blk_put (blk_put (cs:=#[.int .i64 0,.int .i64 0]) (TZ ae) 0 _ rfl) 1 _ rfl) hb);replace HB:=bS HB hb;clear aq hb))
         replace ai:=aM (Kd.V_drew ai.out);replace ab:=bD ab;replace aa:=bD aa;replace ae:=bD ae;replace HB:=aM (below_drew1 HB.out);refine st_ (n:=21) (ds:=[]) (Array.replicate 21 false) (hJ2 aa.out (hK2 ae.out)) (by kernel_rfl) rfl rfl (fun hHeld=>?_);refine with_tabW impl_BuildOk.tab7 impl_BuildOk.bits7 (fun HT_ HW_=>?_);generalize wq4.drew=wq5 at ai ab aa ae HB hHeld ⊢;refine ppq 0 45 ?_;refine ppq 2 47 ?_;refine ptq 1 46 ?_;refine poq 3 48 (fun K hK=>?_);refine gG Tryz.func96 #[.int .i64 ad,.int .i64 xq2] ?_;with_reducible refine(impl_InSet.calls Aq2.out).mono ?_
         rintro e w' ⟨rfl,⟨nd,rfl⟩⟩;refine⟨_,rfl,?_⟩;obtain⟨aE,aF,az⟩:=Kd.V_slice ai.out;(first|subst az|(injection az with f1_ f2_ f3_;have f4_:=f1_.symm;have f5_:=f3_.symm;clear f1_ f2_ f3_;subst f4_;subst f5_));refine hK.out _ _ (cJ2 aa.out (cK2 ae.out)) (fun hHeld=>?_);clear hK K;refine nR ?_;refine ppq 4 49 ?_;refine ppq 5 50 ?_;refine ptq 7 52 ?_;refine poq 6 51 (fun K hK=>?_);refine gG Tryz.func97 #[.slice aE an.length aF] ?_;with_reducible refine(impl_SumOf.calls ?side1 ?side2 Aq3.out).mono ?_
         (case side1=>have X_:=(Kd.V_reads' ai.out).2.2;exact TC);(case side2=>exact(Kd.V_reads' ai.out).2.1);rintro e wq6 ⟨rfl,hb⟩;refine⟨_,rfl,?_⟩;replace ai:=aM (Kd.V_below (by (with_reducible repeat (first|apply Kd.V_alloc|apply Kd.V_drewN|apply Kd.V_drew));exact ai.out) hb);replace ab:=mB ab hb;replace aa:=mB aa hb;replace ae:=mB ae hb;replace HB:=bS HB hb;(try clear hb);refine hK.out _ _ (cJ2 aa.out (cK2 ae.out)) (fun hHeld=>?_);clear hK K;refine nR ?_;refine ppq 8 53 ?_;refine ppq 9 54 ?_;refine ppq 10 55 ?_;refine pxq 11 56 ?_;refine pxq 12 57 ?_;refine pxq 13 58 ?_;refine pxq 14 59 ?_;refine pxq 15 60 ?_;refine pxq 16 61 ?_;refine pxq 17 62 ?_;refine pxq 18 63 ?_;refine pxq 19 64 ?_;refine ppq 20 65 ?_;refine done_ (done_of HT_.out (by kernel_rfl)) ?_;try go_wp2
         go_ret
         exact⟨TE,TB⟩
        ·rw[if_neg ap] at H;have aD:(!(tq1==((rd_T96 ac xq2).f0))||(!(tq2==((rd_T96 ac xq2).f1))))=false:=by simpa using ap
         clear ap;replace H:=bE H;obtain⟨t666,Aq4,H⟩:=H;try go_wp2_with (first|(refine g_C 95 ?_;refine gL (some 44) Tryz.func95 #[.agg #[.int .i64 ad,.slice al aj.length am],.agg #[.int .i64 ah,.int .i64 ag,.int .i64 af,.slice (some ay) ac.length ak],.int .i64 xq2] ?_;(with_reducible refine(impl_Build_block.calls (fun k_=>k_<w.heap.size) _ _ aj ah ag af _ _ ac xq2 an _ ?side1 ?side2 ?side3 Aq1.out).mono ?_);(case side1=>exact Zq27_0);(case side2=>exact Kd.C_below ar.out TB);(case side3=>exact av.out);rintro e wq4 ⟨vq3,rfl,aq,hb⟩;refine⟨_,rfl,?_⟩;have ai:=aM (Kd.V_lower (Kd.V_mono (ok':=fun k_=>k_≠aw∧k_≠gbq2∧k_≠ao) aq (fun k_ hk_=>⟨Or.elim hk_ (fun hs_=>fun e_=>Nat.not_le.2 hs_ (by rw[e_];exact GWq1.out)) (fun hn_=>(Kd.freshB (g:=aw) (o:=.cells #[.int .i64 ah,.int .i64 ag,.int .i64 af,.slice (some ay) ac.length ak] 45 (0,0)) (TZ ab) k_ hn_)),Or.elim hk_ (fun hs_=>fun e_=>Nat.not_le.2 hs_ (by rw[e_];exact GWq2.out)) (fun hn_=>(Kd.freshB (g:=gbq2) (o:=.cells #[.int .i64 ad,.slice al aj.length am] 47 (0,0)) (TZ aa) k_ hn_)),Or.elim hk_ (fun hs_=>fun e_=>Nat.not_le.2 hs_ (by rw[e_];exact GWq3.out)) (fun hn_=>(Kd.freshB (g:=ao) (o:=.cells #[.int .i64 ((rd_T96 ac xq2).f0),.int .i64 ((rd_T96 ac xq2).f1)] 96 (0,0)) (blk_put (blk_put (cs:=#[.int .i64 0,.int .i64 0]) (TZ ae) 0 _ rfl) 1 _ rfl) k_ hn_))⟩)) (below_size TB));replace ab:=mB ab hb;replace aa:=mB aa hb;replace ae:=aM (blk_below (g:=ao) (o:=.cells #[.int .i64 ((rd_T96 ac xq2).f0),.int .i64 ((rd_T96 ac xq2).f1)] 96 (0,0)) (blk_put (blk_put (cs:=#[.int .i64 0,.int .i64 0]) (TZ ae) 0 _ rfl) 1 _ rfl) hb);replace HB:=bS HB hb;clear aq hb))
         replace ai:=aM (Kd.V_drew ai.out);replace ab:=bD ab;replace aa:=bD aa;replace ae:=bD ae;replace HB:=aM (below_drew1 HB.out);refine st_ (n:=21) (ds:=[]) (Array.replicate 21 false) (hJ2 aa.out (hK2 ae.out)) (by kernel_rfl) rfl rfl (fun hHeld=>?_);refine with_tabW impl_BuildOk.tab7 impl_BuildOk.bits7 (fun HT_ HW_=>?_);generalize wq4.drew=wq5 at ai ab aa ae HB hHeld ⊢;refine ppq 0 45 ?_;refine ppq 2 47 ?_;refine ptq 1 46 ?_;refine poq 3 48 (fun K hK=>?_);refine gG Tryz.func96 #[.int .i64 ad,.int .i64 xq2] ?_;with_reducible refine(impl_InSet.calls Aq2.out).mono ?_
         rintro e w' ⟨rfl,⟨nd,rfl⟩⟩;refine⟨_,rfl,?_⟩;obtain⟨aE,aF,az⟩:=Kd.V_slice ai.out;(first|subst az|(injection az with f1_ f2_ f3_;have f4_:=f1_.symm;have f5_:=f3_.symm;clear f1_ f2_ f3_;subst f4_;subst f5_));refine hK.out _ _ (cJ2 aa.out (cK2 ae.out)) (fun hHeld=>?_);clear hK K;refine nR ?_;refine ppq 4 49 ?_;refine ppq 5 50 ?_;refine ptq 7 52 ?_;refine poq 6 51 (fun K hK=>?_);refine gG Tryz.func97 #[.slice aE an.length aF] ?_;with_reducible refine(impl_SumOf.calls ?side1 ?side2 Aq3.out).mono ?_
         (case side1=>have X_:=(Kd.V_reads' ai.out).2.2;exact TC);(case side2=>exact(Kd.V_reads' ai.out).2.1);rintro e wq6 ⟨rfl,hb⟩;refine⟨_,rfl,?_⟩;replace ai:=aM (Kd.V_below (by (with_reducible repeat (first|apply Kd.V_alloc|apply Kd.V_drewN|apply Kd.V_drew));exact ai.out) hb);replace ab:=mB ab hb;replace aa:=mB aa hb;replace ae:=mB ae hb;replace HB:=bS HB hb;(try clear hb);refine hK.out _ _ (cJ2 aa.out (cK2 ae.out)) (fun hHeld=>?_);clear hK K;refine nR ?_;refine ppq 8 53 ?_;refine ppq 9 54 ?_;refine ppq 10 55 ?_;refine ppq 11 56 ?_;refine ppq 13 58 ?_;refine ptq 12 57 ?_;refine poq 14 59 (fun K hK=>?_);refine gG Tryz.func96 #[.int .i64 ad,.int .i64 xq2] ?_;with_reducible refine(impl_InSet.calls Aq4.out).mono ?_
         rintro e w' ⟨rfl,⟨nd,rfl⟩⟩;refine⟨_,rfl,?_⟩;refine hK.out _ _ (cJ2 aa.out (cK2 ae.out)) (fun hHeld=>?_);clear hK K;refine nR ?_;refine ppq 15 60 ?_;refine ppq 16 61 ?_
         by_cases aH:t666=true
         ·subst aH;replace H:=ifT H;have H':=aM H;clear H;refine pxq 17 62 ?_;refine pxq 18 63 ?_;refine ppq 19 64 ?_;refine ppq 20 65 ?_;refine done_ (done_of HT_.out (by kernel_rfl)) ?_;exact Yq27_1
         ·replace aH:=b_F aH;subst aH;replace H:=ifF H;replace H:=bE H;obtain⟨t667,Aq5,H⟩:=H;refine ppq 17 62 ?_;refine poq 18 63 (fun K hK=>?_);refine gG Tryz.func98 #[.slice aE an.length aF,.func (.func 99) #[] #[]] ?_;with_reducible refine(slices_ContainsFunc_byte_byte.calls ?side1 ?side2 Aq5.out).mono ?_
          (case side1=>have X_:=(Kd.V_reads' ai.out).2.2;exact TC);(case side2=>exact(Kd.V_reads' ai.out).2.1);rintro e w' ⟨rfl,⟨nd,rfl⟩⟩;refine⟨_,rfl,?_⟩;refine hK.out _ _ (cJ2 aa.out (cK2 ae.out)) (fun hHeld=>?_);clear hK K;refine nR ?_;refine ppq 19 64 ?_;refine ppq 20 65 ?_;refine done_ (done_of HT_.out (by kernel_rfl)) ?_
          by_cases aK:t667=true
          ·subst aK;replace H:=ifT H;obtain rfl:=o_I H;try go_wp2
           go_ret
           exact⟨TE,TB⟩
          ·replace aK:=b_F aK;subst aK;replace H:=ifF H;have H':=aM H;clear H;exact Yq27_1
       ·replace aJ:=b_F aJ;subst aJ;replace H:=ifF H;replace H:=bE H;obtain⟨t668,Aq3,H⟩:=H
        by_cases ap:t668=true
        ·subst ap;replace H:=ifT H;have H':=aM H;clear H;try go_wp2_with (first|(refine g_C 95 ?_;refine gL (some 44) Tryz.func95 #[.agg #[.int .i64 ad,.slice al aj.length am],.agg #[.int .i64 ah,.int .i64 ag,.int .i64 af,.slice (some ay) ac.length ak],.int .i64 xq2] ?_;(with_reducible refine(impl_Build_block.calls (fun k_=>k_<w.heap.size) _ _ aj ah ag af _ _ ac xq2 an _ ?side1 ?side2 ?side3 Aq1.out).mono ?_);(case side1=>exact Zq27_0);(case side2=>exact Kd.C_below ar.out TB);(case side3=>exact av.out);rintro e wq4 ⟨vq3,rfl,aq,hb⟩;refine⟨_,rfl,?_⟩;have ai:=aM (Kd.V_lower (Kd.V_mono (ok':=fun k_=>k_≠aw∧k_≠gbq2∧k_≠ao) aq (fun k_ hk_=>⟨Or.elim hk_ (fun hs_=>fun e_=>Nat.not_le.2 hs_ (by rw[e_];exact GWq1.out)) (fun hn_=>(Kd.freshB (g:=aw) (o:=.cells #[.int .i64 ah,.int .i64 ag,.int .i64 af,.slice (some ay) ac.length ak] 45 (0,0)) (TZ ab) k_ hn_)),Or.elim hk_ (fun hs_=>fun e_=>Nat.not_le.2 hs_ (by rw[e_];exact GWq2.out)) (fun hn_=>(Kd.freshB (g:=gbq2) (o:=.cells #[.int .i64 ad,.slice al aj.length am] 47 (0,0)) (TZ aa) k_ hn_)),Or.elim hk_ (fun hs_=>fun e_=>Nat.not_le.2 hs_ (by rw[e_];exact GWq3.out)) (fun hn_=>(Kd.freshB (g:=ao) (o:=.cells #[.int .i64 ((rd_T96 ac xq2).f0),.int .i64 ((rd_T96 ac xq2).f1)] 96 (0,0)) (blk_put (blk_put (cs:=#[.int .i64 0,.int .i64 0]) (TZ ae) 0 _ rfl) 1 _ rfl) k_ hn_))⟩)) (below_size TB));replace ab:=mB ab hb;replace aa:=mB aa hb;replace ae:=aM (blk_below (g:=ao) (o:=.cells #[.int .i64 ((rd_T96 ac xq2).f0),.int .i64 ((rd_T96 ac xq2).f1)] 96 (0,0)) (blk_put (blk_put (cs:=#[.int .i64 0,.int .i64 0]) (TZ ae) 0 _ rfl) 1 _ rfl) hb);replace HB:=bS HB hb;clear aq hb))
         replace ai:=aM (Kd.V_drew ai.out);replace ab:=bD ab;replace aa:=bD aa;replace ae:=bD ae;replace HB:=aM (below_drew1 HB.out);refine st_ (n:=21) (ds:=[]) (Array.replicate 21 false) (hK2 aa.out) (by kernel_rfl) rfl rfl (fun hHeld=>?_);refine with_tabW impl_BuildOk.tab7 impl_BuildOk.bits7 (fun HT_ HW_=>?_);generalize wq4.drew=wq5 at ai ab aa ae HB hHeld ⊢;refine ppq 0 45 ?_;refine ppq 2 47 ?_;refine ptq 1 46 ?_;refine poq 3 48 (fun K hK=>?_);refine gG Tryz.func96 #[.int .i64 ad,.int .i64 xq2] ?_;with_reducible refine(impl_InSet.calls Aq2.out).mono ?_
         rintro e w' ⟨rfl,⟨nd,rfl⟩⟩;refine⟨_,rfl,?_⟩;refine hK.out _ _ (cz2 aa.out) (fun hHeld=>?_);clear hK K;refine nR ?_;refine ppq 4 49 ?_;refine pxq 5 50 ?_;refine pxq 6 51 ?_;refine pxq 7 52 ?_;refine pxq 8 53 ?_;refine ppq 9 54 ?_;refine ppq 10 55 ?_;refine ppq 11 56 ?_;refine ppq 13 58 ?_;refine ptq 12 57 ?_;refine poq 14 59 (fun K hK=>?_);refine gG Tryz.func96 #[.int .i64 ad,.int .i64 xq2] ?_;with_reducible refine(impl_InSet.calls Aq3.out).mono ?_
         rintro e w' ⟨rfl,⟨nd,rfl⟩⟩;refine⟨_,rfl,?_⟩;refine hK.out _ _ (cz2 aa.out) (fun hHeld=>?_);clear hK K;refine nR ?_;refine ppq 15 60 ?_;refine ppq 16 61 ?_;refine pxq 17 62 ?_;refine pxq 18 63 ?_;refine ppq 19 64 ?_;refine ppq 20 65 ?_;refine done_ (done_of HT_.out (by kernel_rfl)) ?_;exact Yq27_1
        ·replace ap:=b_F ap;subst ap;replace H:=ifF H;replace H:=bE H;obtain⟨t669,Aq4,H⟩:=H;try go_wp2_with (first|(refine g_C 95 ?_;refine gL (some 44) Tryz.func95 #[.agg #[.int .i64 ad,.slice al aj.length am],.agg #[.int .i64 ah,.int .i64 ag,.int .i64 af,.slice (some ay) ac.length ak],.int .i64 xq2] ?_;(with_reducible refine(impl_Build_block.calls (fun k_=>k_<w.heap.size) _ _ aj ah ag af _ _ ac xq2 an _ ?side1 ?side2 ?side3 Aq1.out).mono ?_);(case side1=>exact Zq27_0);(case side2=>exact Kd.C_below ar.out TB);(case side3=>exact av.out);rintro e wq4 ⟨vq3,rfl,aq,hb⟩;refine⟨_,rfl,?_⟩;have ai:=aM (Kd.V_lower (Kd.V_mono (ok':=fun k_=>k_≠aw∧k_≠gbq2∧k_≠ao) aq (fun k_ hk_=>⟨Or.elim hk_ (fun hs_=>fun e_=>Nat.not_le.2 hs_ (by rw[e_];exact GWq1.out)) (fun hn_=>(Kd.freshB (g:=aw) (o:=.cells #[.int .i64 ah,.int .i64 ag,.int .i64 af,.slice (some ay) ac.length ak] 45 (0,0)) (TZ ab) k_ hn_)),Or.elim hk_ (fun hs_=>fun e_=>Nat.not_le.2 hs_ (by rw[e_];exact GWq2.out)) (fun hn_=>(Kd.freshB (g:=gbq2) (o:=.cells #[.int .i64 ad,.slice al aj.length am] 47 (0,0)) (TZ aa) k_ hn_)),Or.elim hk_ (fun hs_=>fun e_=>Nat.not_le.2 hs_ (by rw[e_];exact GWq3.out)) (fun hn_=>(Kd.freshB (g:=ao) (o:=.cells #[.int .i64 ((rd_T96 ac xq2).f0),.int .i64 ((rd_T96 ac xq2).f1)] 96 (0,0)) (blk_put (blk_put (cs:=#[.int .i64 0,.int .i64 0]) (TZ ae) 0 _ rfl) 1 _ rfl) k_ hn_))⟩)) (below_size TB));replace ab:=mB ab hb;replace aa:=mB aa hb;replace ae:=aM (blk_below (g:=ao) (o:=.cells #[.int .i64 ((rd_T96 ac xq2).f0),.int .i64 ((rd_T96 ac xq2).f1)] 96 (0,0)) (blk_put (blk_put (cs:=#[.int .i64 0,.int .i64 0]) (TZ ae) 0 _ rfl) 1 _ rfl) hb);replace HB:=bS HB hb;clear aq hb))
         replace ai:=aM (Kd.V_drew ai.out);replace ab:=bD ab;replace aa:=bD aa;replace ae:=bD ae;replace HB:=aM (below_drew1 HB.out);refine st_ (n:=21) (ds:=[]) (Array.replicate 21 false) (hK2 aa.out) (by kernel_rfl) rfl rfl (fun hHeld=>?_);refine with_tabW impl_BuildOk.tab7 impl_BuildOk.bits7 (fun HT_ HW_=>?_);generalize wq4.drew=wq5 at ai ab aa ae HB hHeld ⊢;refine ppq 0 45 ?_;refine ppq 2 47 ?_;refine ptq 1 46 ?_;refine poq 3 48 (fun K hK=>?_);refine gG Tryz.func96 #[.int .i64 ad,.int .i64 xq2] ?_;with_reducible refine(impl_InSet.calls Aq2.out).mono ?_
         rintro e w' ⟨rfl,⟨nd,rfl⟩⟩;refine⟨_,rfl,?_⟩;refine hK.out _ _ (cz2 aa.out) (fun hHeld=>?_);clear hK K;refine nR ?_;refine ppq 4 49 ?_;refine pxq 5 50 ?_;refine pxq 6 51 ?_;refine pxq 7 52 ?_;refine pxq 8 53 ?_;refine ppq 9 54 ?_;refine ppq 10 55 ?_;refine ppq 11 56 ?_;refine ppq 13 58 ?_;refine ptq 12 57 ?_;refine poq 14 59 (fun K hK=>?_);refine gG Tryz.func96 #[.int .i64 ad,.int .i64 xq2] ?_;with_reducible refine(impl_InSet.calls Aq3.out).mono ?_
         rintro e w' ⟨rfl,⟨nd,rfl⟩⟩;refine⟨_,rfl,?_⟩;obtain⟨aE,aF,az⟩:=Kd.V_slice ai.out;(first|subst az|(injection az with f1_ f2_ f3_;have f4_:=f1_.symm;have f5_:=f3_.symm;clear f1_ f2_ f3_;subst f4_;subst f5_));refine hK.out _ _ (cz2 aa.out) (fun hHeld=>?_);clear hK K;refine nR ?_;refine ppq 15 60 ?_;refine ppq 16 61 ?_;refine ppq 17 62 ?_;refine poq 18 63 (fun K hK=>?_);refine gG Tryz.func98 #[.slice aE an.length aF,.func (.func 99) #[] #[]] ?_;with_reducible refine(slices_ContainsFunc_byte_byte.calls ?side1 ?side2 Aq4.out).mono ?_
         (case side1=>have X_:=(Kd.V_reads' ai.out).2.2;exact TC);(case side2=>exact(Kd.V_reads' ai.out).2.1);rintro e w' ⟨rfl,⟨nd,rfl⟩⟩;refine⟨_,rfl,?_⟩;refine hK.out _ _ (cz2 aa.out) (fun hHeld=>?_);clear hK K;refine nR ?_;refine ppq 19 64 ?_;refine ppq 20 65 ?_;refine done_ (done_of HT_.out (by kernel_rfl)) ?_
         by_cases aD:t669=true
         ·subst aD;replace H:=ifT H;obtain rfl:=o_I H;try go_wp2
          go_ret
          exact⟨TE,TB⟩
         ·replace aD:=b_F aD;subst aD;replace H:=ifF H;have H':=aM H;clear H;exact Yq27_1
      ·rw[if_neg aG] at H;have cq11:decide (xq2<(ac.length:Int))=false:=decide_eq_false aG;clear aG;obtain rfl:=o_I H;go_wp2
       go_ret
       exact⟨TE,TB⟩
attribute [local go_sem] min2_int min_two
def impl_Without.f (c:Int)(d:Int):Option (Int):=(impl_SetOk.f c).bind fun a=>(if a=true then ((impl_SetOk.f d).bind fun b=>(if b=true then (some (Go.bits .andNot .i64 c d)) else (some 0))) else (some 0))
theorem impl_Without.calls {a0:Int}{a1:Int}{r:Int}{w:World}(h:impl_Without.f a0 a1=some r):
    Calls Tryz.prog 100 #[.int .i64 a0,.int .i64 a1] w fun e w'=>e=.returned (.int .i64 r)∧Drawn0 w w':=by
  have H:=h
  clear h
  unfold impl_Without.f at H
  replace H:=bE H
  obtain⟨t670,A3,H⟩:=H
  by_cases c4:t670=true
  · subst c4
    replace H:=ifT H
    replace H:=bE H
    obtain⟨t671,A5,H⟩:=H
    by_cases c6:t671=true
    · subst c6
      replace H:=ifT H
      obtain rfl:=o_I H
      go_enter Tryz.func100,Tryz.ntmps100
      go_wp2_with (first|(refine g_C 93 ?_;refine gL (some 6) Tryz.func93 #[.int .i64 a0] ?_;(with_reducible refine(impl_SetOk.calls A3.out).mono ?_);rintro e w' ⟨rfl,⟨nd,rfl⟩⟩;refine⟨_,rfl,?_⟩)|(go_at_call 93;(with_reducible refine(impl_SetOk.calls A5.out).mono ?_);rintro e w' ⟨rfl,⟨nd,rfl⟩⟩))
      go_ret
      exact⟨by first|rfl|(simp;done)|(simp [*];done),TD⟩
    · replace c6:=b_F c6
      subst c6
      replace H:=ifF H
      obtain rfl:=o_I H
      go_enter Tryz.func100,Tryz.ntmps100
      go_wp2_with (first|(refine g_C 93 ?_;refine gL (some 6) Tryz.func93 #[.int .i64 a0] ?_;(with_reducible refine(impl_SetOk.calls A3.out).mono ?_);rintro e w' ⟨rfl,⟨nd,rfl⟩⟩;refine⟨_,rfl,?_⟩)|(go_at_call 93;(with_reducible refine(impl_SetOk.calls A5.out).mono ?_);rintro e w' ⟨rfl,⟨nd,rfl⟩⟩))
      go_ret
      exact⟨by first|rfl|(simp;done)|(simp [*];done),TD⟩
  · replace c4:=b_F c4
    subst c4
    replace H:=ifF H
    obtain rfl:=o_I H
    go_enter Tryz.func100,Tryz.ntmps100
    go_wp2_with (first|(refine g_C 93 ?_;refine gL (some 6) Tryz.func93 #[.int .i64 a0] ?_;(with_reducible refine(impl_SetOk.calls A3.out).mono ?_);rintro e w' ⟨rfl,⟨nd,rfl⟩⟩;refine⟨_,rfl,?_⟩))
    go_ret
    exact⟨by first|rfl|(simp;done)|(simp [*];done),TD⟩
def impl_Missing.f (a:Int)(b:Int)(c:Int)(d:List (S96))(e:Int)(h:List Int):Option (Int):=(impl_AllParts.f a b c d).bind fun f=>((impl_Without.f f e).bind fun g=>(some g))
theorem impl_Missing.calls {a0_0:Int}{a0_1:Int}{a0_2:Int}{A0_3:Option Addr}{c0_3:Nat}{l0_3:List (S96)}{a1_0:Int}{A1_1:Option Addr}{c1_1:Nat}{l1_1:List Int}{r:Int}{w:World}(hr0_3:Kd.C k96 w A0_3 l0_3.length l0_3)(hc0_3:l0_3.length≤c0_3)(hr1_1:Kd.C (Kd.int .u8) w A1_1 l1_1.length l1_1)(hc1_1:l1_1.length≤c1_1)(h:impl_Missing.f a0_0 a0_1 a0_2 l0_3 a1_0 l1_1=some r):
    Calls Tryz.prog 65 #[.agg #[.int .i64 a0_0,.int .i64 a0_1,.int .i64 a0_2,.slice A0_3 l0_3.length c0_3],.agg #[.int .i64 a1_0,.slice A1_1 l1_1.length c1_1]] w fun e w'=>e=.returned (.int .i64 r)∧Below w.heap.size w w':=by
  have hu45:=Tryz.underlying45
  have hu47:=Tryz.underlying47
  have HR0_3:=aM hr0_3
  have HC0_3:=aM hc0_3
  clear hr0_3 hc0_3
  have HR1_1:=aM hr1_1
  have HC1_1:=aM hc1_1
  clear hr1_1 hc1_1
  have HB:=aM (Below.refl w.heap.size w)
  have H:=h
  clear h
  unfold impl_Missing.f at H
  replace H:=bE H
  obtain⟨t674,A3,H⟩:=H
  replace H:=bE H
  obtain⟨t675,A4,H⟩:=H
  obtain rfl:=o_I H
  go_enter Tryz.func65,Tryz.ntmps65
  try go_wp2_with (first|(refine g_D 2 ?_;refine gBx 2 #[.int .i64 a0_0,.int .i64 a0_1,.int .i64 a0_2,.slice A0_3 l0_3.length c0_3] 45 ?_;intro gb672 hg w5 hbox hb;have BK672:=aM (hbox);have GW672:=gW HB hg;have GE672:=gW HB hg;replace HB:=bS HB hb;clear hb hbox hg)|(refine g_D 3 ?_;refine gBx 3 #[.int .i64 a1_0,.slice A1_1 l1_1.length c1_1] 47 ?_;intro gb673 hg w6 hbox hb;have BK673:=aM (hbox);have GW673:=gW HB hg;have GE673:=gW HB hg;obtain⟨NB672_673,NB673_672⟩:=nB BK672 hg;replace BK672:=mB BK672 hb;replace HB:=bS HB hb;clear hb hbox hg))
  replace BK672:=bD BK672
  replace BK673:=bD BK673
  replace HB:=aM (below_drew1 HB.out)
  refine st_ (n:=6) (ds:=[]) (Array.replicate 6 false) (hJ4 BK672.out (hK2 BK673.out)) (by kernel_rfl) rfl rfl (fun hHeld=>?_)
  generalize w6.drew=w7 at BK672 BK673 HB hHeld ⊢
  refine ppq 2 7 ?_
  refine ptq 0 5 ?_
  refine ptq 3 8 ?_
  refine poq 1 6 (fun K hK=>?_)
  refine gG Tryz.func94 #[.agg #[.int .i64 a0_0,.int .i64 a0_1,.int .i64 a0_2,.slice A0_3 l0_3.length c0_3]] ?_
  with_reducible refine(impl_AllParts.calls ?side1 ?side2 A3.out).mono ?_
  (case side1=>have X_:=(Kd.C_below HR0_3.out HB.out);exact TC)
  (case side2=>exact HC0_3.out)
  rintro e w8 ⟨rfl,hb⟩
  refine⟨_,rfl,?_⟩
  replace BK672:=mB BK672 hb
  replace BK673:=mB BK673 hb
  replace HB:=bS HB hb
  (try clear hb)
  (try clear hb2)
  (try clear hk)
  (try clear hi)
  refine hK.out _ _ (cJ4 BK672.out (cK2 BK673.out)) (fun hHeld=>?_)
  clear hK K
  refine nR ?_
  refine poq 4 9 (fun K hK=>?_)
  refine gG Tryz.func100 #[.int .i64 t674,.int .i64 a1_0] ?_
  with_reducible refine(impl_Without.calls A4.out).mono ?_
  rintro e w' ⟨rfl,⟨nd,rfl⟩⟩
  refine⟨_,rfl,?_⟩
  refine hK.out _ _ (cJ4 BK672.out (cK2 BK673.out)) (fun hHeld=>?_)
  clear hK K
  refine nR ?_
  refine ppq 5 4 ?_
  refine done_ (by kernel_rfl) ?_
  try go_wp2
  go_ret
  exact⟨TE,TB⟩
def impl_Whole.f (k:Nat)(a:Int)(b:Int)(c:Int)(d:List (S96))(e:Int)(f:List Int):Option (Bool):=if a=0 then (some false) else ((impl_BuildOk.f k a b c d e f).bind fun g=>(if g=true then ((impl_Missing.f a b c d e f).bind fun h=>(some (h==0))) else (some false)))
theorem impl_Whole.mono :∀a b c d e f k,LeO (impl_Whole.f k a b c d e f) (impl_Whole.f (k+1) a b c d e f):=by
  intro a0 a1 a2 a3 a4 a5 k;have m0_:=@impl_BuildOk.mono;unfold impl_Whole.f;exact LM
theorem impl_Whole.calls {k:Nat}{a0_0:Int}{a0_1:Int}{a0_2:Int}{A0_3:Option Addr}{c0_3:Nat}{l0_3:List (S96)}{a1_0:Int}{A1_1:Option Addr}{c1_1:Nat}{l1_1:List Int}{r:Bool}{w:World}(hr0_3:Kd.C k96 w A0_3 l0_3.length l0_3)(hc0_3:l0_3.length≤c0_3)(hr1_1:Kd.C (Kd.int .u8) w A1_1 l1_1.length l1_1)(hc1_1:l1_1.length≤c1_1)(h:impl_Whole.f k a0_0 a0_1 a0_2 l0_3 a1_0 l1_1=some r):
    Calls Tryz.prog 35 #[.agg #[.int .i64 a0_0,.int .i64 a0_1,.int .i64 a0_2,.slice A0_3 l0_3.length c0_3],.agg #[.int .i64 a1_0,.slice A1_1 l1_1.length c1_1]] w fun e w'=>e=.returned (.bool r)∧Below w.heap.size w w':=by
  have hu45:=Tryz.underlying45
  have hu47:=Tryz.underlying47
  have HR0_3:=aM hr0_3
  have HC0_3:=aM hc0_3
  clear hr0_3 hc0_3
  have HR1_1:=aM hr1_1
  have HC1_1:=aM hc1_1
  clear hr1_1 hc1_1
  have HB:=aM (Below.refl w.heap.size w)
  have H:=h
  clear h
  unfold impl_Whole.f at H
  by_cases c3:a0_0=0
  · rw[if_pos c3] at H
    have c3b0:(a0_0==0)=true:=beq_iff_eq.mpr c3
    have c3b1:(a0_0 != 0)=false:=bne_eq_false_iff_eq.mpr c3
    clear c3
    obtain rfl:=o_I H
    go_enter Tryz.func35,Tryz.ntmps35
    go_wp2_with (first|(refine g_D 2 ?_;refine gBx 2 #[.int .i64 a0_0,.int .i64 a0_1,.int .i64 a0_2,.slice A0_3 l0_3.length c0_3] 45 ?_;intro gb676 hg w4 hbox hb;have BK676:=aM (hbox);have GW676:=gW HB hg;have GE676:=gW HB hg;replace HB:=bS HB hb;clear hb hbox hg)|(refine g_D 3 ?_;refine gBx 3 #[.int .i64 a1_0,.slice A1_1 l1_1.length c1_1] 47 ?_;intro gb677 hg w5 hbox hb;have BK677:=aM (hbox);have GW677:=gW HB hg;have GE677:=gW HB hg;obtain⟨NB676_677,NB677_676⟩:=nB BK676 hg;replace BK676:=mB BK676 hb;replace HB:=bS HB hb;clear hb hbox hg;obtain⟨hnb6,hnc6⟩:=oB NB676_677;obtain⟨hcz7_0,hcz7_1,hcz7_2,hcz7_3⟩:=cz4 BK676.out;obtain⟨hfz7_0,hfz7_1,hfz7_2,hfz7_3⟩:=fz4 BK676.out))
    go_ret
    exact⟨TE,TB⟩
  · rw[if_neg c3] at H
    have c3b0:(a0_0==0)=false:=beq_eq_false_iff_ne.mpr c3
    have c3b1:(a0_0 != 0)=true:=bne_iff_ne.mpr c3
    replace H:=bE H
    obtain⟨t678,A8,H⟩:=H
    by_cases c9:t678=true
    · subst c9
      replace H:=ifT H
      replace H:=bE H
      obtain⟨t679,A10,H⟩:=H
      obtain rfl:=o_I H
      go_enter Tryz.func35,Tryz.ntmps35
      go_wp2_with (first|(refine g_D 2 ?_;refine gBx 2 #[.int .i64 a0_0,.int .i64 a0_1,.int .i64 a0_2,.slice A0_3 l0_3.length c0_3] 45 ?_;intro gb676 hg w11 hbox hb;have BK676:=aM (hbox);have GW676:=gW HB hg;have GE676:=gW HB hg;replace HB:=bS HB hb;clear hb hbox hg)|(refine g_D 3 ?_;refine gBx 3 #[.int .i64 a1_0,.slice A1_1 l1_1.length c1_1] 47 ?_;intro gb677 hg w12 hbox hb;have BK677:=aM (hbox);have GW677:=gW HB hg;have GE677:=gW HB hg;obtain⟨NB676_677,NB677_676⟩:=nB BK676 hg;replace BK676:=mB BK676 hb;replace HB:=bS HB hb;clear hb hbox hg;obtain⟨hnb13,hnc13⟩:=oB NB676_677;obtain⟨hcz14_0,hcz14_1,hcz14_2,hcz14_3⟩:=cz4 BK676.out;obtain⟨hfz14_0,hfz14_1,hfz14_2,hfz14_3⟩:=fz4 BK676.out;obtain⟨hcz15_0,hcz15_1⟩:=cz2 BK677.out;obtain⟨hfz15_0,hfz15_1⟩:=fz2 BK677.out)|(go_at_call 64;(with_reducible refine(impl_BuildOk.calls ?side1 ?side2 ?side3 ?side4 A8.out).mono ?_);(case side1=>have X_:=(Kd.C_below HR0_3.out HB.out);exact TC);(case side2=>exact HC0_3.out);(case side3=>have X_:=(Kd.C_below HR1_1.out HB.out);exact TC);(case side4=>exact HC1_1.out);rintro e w16 ⟨rfl,hb⟩;replace BK676:=mB BK676 hb;replace BK677:=mB BK677 hb;replace HB:=bS HB hb;clear hb;obtain⟨hcz17_0,hcz17_1,hcz17_2,hcz17_3⟩:=cz4 BK676.out;obtain⟨hfz17_0,hfz17_1,hfz17_2,hfz17_3⟩:=fz4 BK676.out;obtain⟨hcz18_0,hcz18_1⟩:=cz2 BK677.out;obtain⟨hfz18_0,hfz18_1⟩:=fz2 BK677.out)|(go_at_call 65;(with_reducible refine(impl_Missing.calls ?side1 ?side2 ?side3 ?side4 A10.out).mono ?_);(case side1=>have X_:=(Kd.C_below HR0_3.out HB.out);exact TC);(case side2=>exact HC0_3.out);(case side3=>have X_:=(Kd.C_below HR1_1.out HB.out);exact TC);(case side4=>exact HC1_1.out);rintro e w19 ⟨rfl,hb⟩;replace BK676:=mB BK676 hb;replace BK677:=mB BK677 hb;replace HB:=bS HB hb;clear hb))
      go_ret
      exact⟨TE,TB⟩
    · replace c9:=b_F c9
      subst c9
      replace H:=ifF H
      obtain rfl:=o_I H
      go_enter Tryz.func35,Tryz.ntmps35
      go_wp2_with (first|(refine g_D 2 ?_;refine gBx 2 #[.int .i64 a0_0,.int .i64 a0_1,.int .i64 a0_2,.slice A0_3 l0_3.length c0_3] 45 ?_;intro gb676 hg w20 hbox hb;have BK676:=aM (hbox);have GW676:=gW HB hg;have GE676:=gW HB hg;replace HB:=bS HB hb;clear hb hbox hg)|(refine g_D 3 ?_;refine gBx 3 #[.int .i64 a1_0,.slice A1_1 l1_1.length c1_1] 47 ?_;intro gb677 hg w21 hbox hb;have BK677:=aM (hbox);have GW677:=gW HB hg;have GE677:=gW HB hg;obtain⟨NB676_677,NB677_676⟩:=nB BK676 hg;replace BK676:=mB BK676 hb;replace HB:=bS HB hb;clear hb hbox hg;obtain⟨hnb22,hnc22⟩:=oB NB676_677;obtain⟨hcz23_0,hcz23_1,hcz23_2,hcz23_3⟩:=cz4 BK676.out;obtain⟨hfz23_0,hfz23_1,hfz23_2,hfz23_3⟩:=fz4 BK676.out;obtain⟨hcz24_0,hcz24_1⟩:=cz2 BK677.out;obtain⟨hfz24_0,hfz24_1⟩:=fz2 BK677.out)|(go_at_call 64;(with_reducible refine(impl_BuildOk.calls ?side1 ?side2 ?side3 ?side4 A8.out).mono ?_);(case side1=>have X_:=(Kd.C_below HR0_3.out HB.out);exact TC);(case side2=>exact HC0_3.out);(case side3=>have X_:=(Kd.C_below HR1_1.out HB.out);exact TC);(case side4=>exact HC1_1.out);rintro e w25 ⟨rfl,hb⟩;replace BK676:=mB BK676 hb;replace BK677:=mB BK677 hb;replace HB:=bS HB hb;clear hb))
      go_ret
      exact⟨TE,TB⟩
def impl_Spare.f (b:List Int)(c:List Int)(d:Int)(a:Int)(e:Int)(f:List (S91)):Option (Int):=some (wrap64 (1 - a))
theorem impl_Spare.calls {A0_0:Option Addr}{c0_0:Nat}{l0_0:List Int}{A0_1:Option Addr}{c0_1:Nat}{l0_1:List Int}{a0_2:Int}{a0_3:Int}{a0_4:Int}{A0_5:Option Addr}{c0_5:Nat}{l0_5:List (S91)}{r:Int}{w:World}(hr0_0:Kd.C (Kd.int .u8) w A0_0 l0_0.length l0_0)(hc0_0:l0_0.length≤c0_0)(hr0_1:Kd.C (Kd.int .u8) w A0_1 l0_1.length l0_1)(hc0_1:l0_1.length≤c0_1)(hr0_5:Kd.C k91 w A0_5 l0_5.length l0_5)(hc0_5:l0_5.length≤c0_5)(h:impl_Spare.f l0_0 l0_1 a0_2 a0_3 a0_4 l0_5=some r):
    Calls Tryz.prog 39 #[.agg #[.slice A0_0 l0_0.length c0_0,.slice A0_1 l0_1.length c0_1,.int .i64 a0_2,.int .i64 a0_3,.int .i64 a0_4,.slice A0_5 l0_5.length c0_5]] w fun e w'=>e=.returned (.int .i64 r)∧Below w.heap.size w w':=by
  have hu39:=Tryz.underlying39
  have HR0_0:=aM hr0_0
  have HC0_0:=aM hc0_0
  clear hr0_0 hc0_0
  have HR0_1:=aM hr0_1
  have HC0_1:=aM hc0_1
  clear hr0_1 hc0_1
  have HR0_5:=aM hr0_5
  have HC0_5:=aM hc0_5
  clear hr0_5 hc0_5
  have HB:=aM (Below.refl w.heap.size w)
  have H:=h
  clear h
  unfold impl_Spare.f at H
  obtain rfl:=o_I H
  go_enter Tryz.func39,Tryz.ntmps39
  go_wp2_with (first|(refine g_D 1 ?_;refine gBx 1 #[.slice A0_0 l0_0.length c0_0,.slice A0_1 l0_1.length c0_1,.int .i64 a0_2,.int .i64 a0_3,.int .i64 a0_4,.slice A0_5 l0_5.length c0_5] 39 ?_;intro gb680 hg w2 hbox hb;have BK680:=aM (hbox);have GW680:=gW HB hg;have GE680:=gW HB hg;replace HB:=bS HB hb;clear hb hbox hg;obtain⟨hcz3_0,hcz3_1,hcz3_2,hcz3_3,hcz3_4,hcz3_5⟩:=cz6 BK680.out;obtain⟨hfz3_0,hfz3_1,hfz3_2,hfz3_3,hfz3_4,hfz3_5⟩:=fz6 BK680.out))
  go_ret
  exact⟨TE,TB⟩
def impl_cloned.f (a:List Int):Option (List Int):=if a.length≤140737488355328 then (some a) else (none)
theorem impl_cloned.calls {A0:Option Addr}{c0:Nat}{l0:List Int}{r:List Int}{w:World}(hr0:Kd.C (Kd.int .u8) w A0 l0.length l0)(hc0:l0.length≤c0)(h:impl_cloned.f l0=some r):
    Calls Tryz.prog 74 #[.slice A0 l0.length c0] w fun e w'=>∃v0_:Value,e=.returned (v0_)∧Kd.R (Kd.int .u8) 5 w' w.heap.size (fun _=>True) v0_ r∧Below w.heap.size w w':=by
  have HR0:=Aside0.mk hr0
  clear hr0 hc0
  unfold impl_cloned.f at h
  by_cases hl:l0.length≤140737488355328
  · rw[if_pos hl] at h
    obtain rfl:=Option.some.inj h
    have HL:=Aside0.mk hl
    clear h hl
    obtain⟨i0,hi,hzz⟩:=Option.map_eq_some_iff.1 info5
    simp only[Prod.mk.injEq] at hzz
    have HZ:=Aside0.mk hzz
    have HI:=Aside0.mk hi
    clear hi hzz
    go_enter Tryz.func74,Tryz.ntmps74
    go_wp2_with (first|(at_make;refine wpList_make_own _ rfl _ _ 22 rfl w.heap.size 5 i0 (.int .u8 0) 1 Tryz.underlying22 HI.out HZ.out.1 HZ.out.2.1 _ _ _ l0.length rfl rfl rfl ?mb ?mm ?ms ?_;(case mb=>rw[HZ.out.2.2];have:=HL.out;omega);(case mm=>have:=HL.out;simp only[maxLen];omega);(case ms=>exact Nat.le_refl _);intro w1 ho hg;have HO:=Aside0.mk (show Kd.R (Kd.int .u8) 5 w1 w.heap.size (fun _=>True) (.slice (some ⟨w.heap.size,0,none⟩) 0 l0.length) [] from⟨fun _ _=>trivial,[],ho,Reps.none _ _⟩);have HB:=Aside0.mk (show Below w.heap.size w w1 from pw_below_grown (Below.refl _ _) none (Nat.le_refl _) hg (by simp));clear ho hg)|((with_reducible refine gate_builtin (b:=.append) (xs:=#[.tmp 5,.tmp 6]) rfl ?_);at_builtin;refine Kd.R_append_rows (Kd.int .u8) (w0:=w) w.heap.size rfl (.tmp 5) (.tmp 6) 22 5 (.int .u8 0) 1 rfl Tryz.underlying22 info5 rfl (by decide) (by omega) (.slice (some ⟨w.heap.size,0,none⟩) 0 l0.length) [] l0 A0 _ _ (fun _=>True) (fun _=>False) rfl rfl ?aO ?aR (fun _ _ h=>h) (fun _ h=>h.elim) ?aF ?aB ?aS ?aL ?_;(case aR=>exact Kd.C_below HR0.out HB.out);(case aB=>exact HB.out);(case aF=>exact(fun _ _=>trivial));(case aO=>exact HO.out);(case aS=>exact below_size HB.out);(case aL=>have:=HL.out;simp only[List.length_nil];omega);intro v2 w2 ho2 hb2 hg2 hat2;have HO2:=Aside0.mk ho2;have HB2:=Aside0.mk hb2;clear HO HB ho2 hb2 hg2 hat2))
    go_ret
    exact⟨_,rfl,by simpa using HO2.out,HB2.out⟩
  · rw[if_neg hl] at h
    cases h
def impl_copyPut.f (a:Int)(b:Int)(c:List Int)(d:Int)(e:Int)(f:Int):Option (Int×Int×List Int×Int×Int×Int):=(impl_cloned.f c).bind fun g=>(some (a,b,g,d,e,f))
theorem impl_copyPut.calls {af:Int}{ad:Int}{ab:Option Addr}{ag:Nat}{aa:List Int}{ae:Int}{ac:Int}{ah:Int}{r1:Int}{r2:Int}{r3:List Int}{r4:Int}{r5:Int}{r6:Int}{w:World}(ai:Kd.C (Kd.int .u8) w ab aa.length aa)(aj:aa.length≤ag)(h:impl_copyPut.f af ad aa ae ac ah=some (r1,r2,r3,r4,r5,r6)):
  Calls Tryz.prog 75 #[.agg #[.int .i64 af,.int .i64 ad,.slice ab aa.length ag,.int .i64 ae,.int .i64 ac,.int .i64 ah]] w fun e w'=>∃v2_:Value,e=.returned (.agg #[.int .i64 r1,.int .i64 r2,v2_,.int .i64 r4,.int .i64 r5,.int .i64 r6])∧Kd.R (Kd.int .u8) 5 w' w.heap.size (fun _=>True) v2_ r3∧Below w.heap.size w w':=by
 have huq1:=Tryz.underlying91;have HRq1:=aM ai;have HCq1:=aM aj;clear ai aj;have HB:=aM (Below.refl w.heap.size w);have H:=h;clear h;unfold impl_copyPut.f at H;replace H:=bE H;obtain⟨t683,Aq1,H⟩:=H;simp only[Option.some.injEq,Prod.mk.injEq] at H;obtain⟨rfl,rfl,rfl,rfl,rfl,rfl⟩:=H;go_enter Tryz.func75,Tryz.ntmps75;go_wp2_with (first|(refine g_D 1 ?_;refine gBx 1 #[.int .i64 af,.int .i64 ad,.slice ab aa.length ag,.int .i64 ae,.int .i64 ac,.int .i64 ah] 91 ?_;intro gbq1 hg wq1 hbox hb;have BKq1:=aM (hbox);have GWq1:=gW HB hg;have GEq1:=gW HB hg;replace HB:=bS HB hb;clear hb hbox hg)|(refine g_D 2 ?_;refine gBx 2 #[.int .i64 0,.int .i64 0,.slice none 0 0,.int .i64 0,.int .i64 0,.int .i64 0] 91 ?_;intro gbq2 hg w4 hbox hb;have BKq2:=aM (hbox);have GWq2:=gW HB hg;have GEq2:=gW HB hg;obtain⟨NBq1,NBq2⟩:=nB BKq1 hg;replace BKq1:=mB BKq1 hb;replace HB:=bS HB hb;clear hb hbox hg;obtain⟨hnbq1,hncq1⟩:=oB NBq1;obtain⟨hczq1,hczq2,hczq3,hczq4,hczq5,hczq6⟩:=cz6 BKq1.out;obtain⟨hfzq1,hfzq2,hfzq3,hfzq4,hfzq5,hfzq6⟩:=fz6 BKq1.out)|(refine g_C 74 ?_;refine gL (some 5) Tryz.func74 #[.slice ab aa.length ag] ?_;(with_reducible refine(impl_cloned.calls ?side1 ?side2 Aq1.out).mono ?_);(case side1=>have X_:=(Kd.C_below HRq1.out HB.out);exact TC);(case side2=>exact HCq1.out);rintro e w7 ⟨vq1,rfl,hoq1,hb⟩;refine⟨_,rfl,?_⟩;have HOq1:=aM (Kd.R_lower hoq1 (below_size TB));replace BKq1:=mB BKq1 hb;replace BKq2:=mB BKq2 hb;replace HB:=bS HB hb;clear hoq1 hb;obtain⟨Aoq1,coq1,eoq1⟩:=Kd.R_slice HOq1.out;subst eoq1;obtain⟨hczq7,hczq8,hczq9,hczq10,hczq11,hczq12⟩:=cz6 BKq1.out;obtain⟨hfzq7,hfzq8,hfzq9,hfzq10,hfzq11,hfzq12⟩:=fz6 BKq1.out;obtain⟨hczq13,hczq14,hczq15,hczq16,hczq17,hczq18⟩:=cz6 BKq2.out;obtain⟨hfzq13,hfzq14,hfzq15,hfzq16,hfzq17,hfzq18⟩:=fz6 BKq2.out))
 refine bodyPost_ret (results_cell_row rfl _ _ gbq2 91 #[.int .i64 af,.int .i64 ad,.slice Aoq1 t683.length coq1,.int .i64 ae,.int .i64 ac,.int .i64 ah] (0,0) _ rfl (blk_put (blk_put (blk_put (blk_put (blk_put (blk_put (cs:=#[.int .i64 0,.int .i64 0,.slice none 0 0,.int .i64 0,.int .i64 0,.int .i64 0]) (TZ BKq2) 0 _ rfl) 1 _ rfl) 2 _ rfl) 3 _ rfl) 4 _ rfl) 5 _ rfl) Tryz.underlying91 rfl (by kernel_rfl)) rfl ?_;exact⟨_,TE,by (with_reducible repeat (first|apply Kd.R_alloc|apply Kd.R_drewN|apply Kd.R_drew));exact Kd.R_mono (RK2 (Kd.R_types (Kd.R_types HOq1.out BKq1.out (by decide)) BKq2.out (by decide))) (fun _ hk=>trivial),TB⟩
theorem Zq29_0 {p:Prop}(h:p:=by (with_reducible repeat (first|apply Kd.R_alloc|apply Kd.R_drewN|apply Kd.R_drew));exact Kd.R_mono ag.out (fun _ hk=>hk.2)):p:=h
theorem Zq29_1 {p:Prop}(h:p:=by (with_reducible repeat (first|apply Kd.R_alloc|apply Kd.R_drewN|apply Kd.R_drew));exact Kd.R_mono aH.out (fun _ hk=>hk.2)):p:=h
theorem Zq29_2 {p:Prop}(h:p:=by simp only[putAll,Act.put,List.setIfInBounds_toArray,List.set_cons_zero,List.set_cons_succ]):p:=h
def impl_copyDisk.l0 :Nat→List (S91)→Int→Int→List Int→List Int→Int→Int→Int→List (S91)→Option (List Int×List Int×Int×Int×Int×(List (S91)))
  |0,_,_,_,_,_,_,_,_,_=>none
  |k+1,d,j,b,e,f,g,h,i,c=>if b<j then (if 0≤b then (if b<(d.length:Int) then ((impl_copyPut.f ((rd_T91 d b).f0) ((rd_T91 d b).f1) ((rd_T91 d b).f2) ((rd_T91 d b).f3.f0) ((rd_T91 d b).f3.f1) ((rd_T91 d b).f3.f2)).bind fun a=>(if c.length<2199023255552 then (impl_copyDisk.l0 k d j (wrap64 (b+1)) e f g h i (c++[(⟨a.1,a.2.1,a.2.2.1,(⟨a.2.2.2.1,a.2.2.2.2.1,a.2.2.2.2.2⟩:S36)⟩:S91)])) else (none))) else (none)) else (none)) else (some (e,f,g,h,i,c))
def impl_copyDisk.f (k:Nat)(b:List Int)(c:List Int)(d:Int)(e:Int)(f:Int)(a:List (S91)):Option (List Int×List Int×Int×Int×Int×(List (S91))):=(impl_cloned.f b).bind fun g=>((impl_cloned.f c).bind fun h=>(impl_copyDisk.l0 k a (a.length:Int) 0 g h d e f ([]:List (S91))))
theorem impl_copyDisk.mono_l :∀k,(∀a b c d e f g h i,LeO (impl_copyDisk.l0 k a b c d e f g h i) (impl_copyDisk.l0 (k+1) a b c d e f g h i))
  |0=>fun _ _ _ _ _ _ _ _ _ r h=>by simp [impl_copyDisk.l0] at h
  | k+1=>by
    have ih0:=impl_copyDisk.mono_l k
    · intro y0 y1 y2 y3 y4 y5 y6 y7 y8
      unfold impl_copyDisk.l0
      exact LM
theorem impl_copyDisk.mono :∀a b c d e f k,LeO (impl_copyDisk.f k a b c d e f) (impl_copyDisk.f (k+1) a b c d e f):=by
  intro a0 a1 a2 a3 a4 a5 k;have ih0:=impl_copyDisk.mono_l k;unfold impl_copyDisk.f;exact LM
def impl_copyDisk.T1 :Bool×List (List Nat×List Nat):=(true,[([],[]),([0],[0]),([1],[1]),([],[]),([3],[3]),([4,2],[4]),([],[]),([6],[6]),([2,5,7],[2,5,7]),([],[]),([9,8,5,0,1,2,3,4,5,6,7,8,9],[8,9])])
def impl_copyDisk.B1 :List Nat:=[0,1,3,0,8,31,0,64,255,0,1023]
theorem impl_copyDisk.tab1 :rtab .any (opsOf Tryz.f40 1)=impl_copyDisk.T1:=by kernel_rfl
theorem impl_copyDisk.bits1 :waitsOk impl_copyDisk.T1.2 impl_copyDisk.B1=true:=by kernel_rfl
def impl_copyDisk.T5 :Bool×List (List Nat×List Nat):=(true,[([],[]),([0],[0]),([],[]),([2],[2]),([3],[3]),([1,4,3],[1,4]),([0,1,2,3,4,5],[]),([6,5,5,0,1,2,3,4,5],[5,6])])
def impl_copyDisk.B5 :List Nat:=[0,1,0,4,12,31,63,127]
theorem impl_copyDisk.tab5 :rtab .any (opsOf Tryz.f40 5)=impl_copyDisk.T5:=by kernel_rfl
theorem impl_copyDisk.bits5 :waitsOk impl_copyDisk.T5.2 impl_copyDisk.B5=true:=by kernel_rfl
theorem Yq29_0 {p:Prop}(h:p:=by
 refine hK.out _ _ (cz6 ab.out) (fun hHeld=>?_);clear hK K;refine nR ?_;refine pOe 5 (some 11) #[true,true,true,true,true,true,true,true,false,true,false] (fun K hK=>?_);refine gG Tryz.func74 #[.slice ay aj.length az] ?_;with_reducible refine(impl_cloned.calls ?side1 ?side2 Aq2.out).mono ?_
 (case side1=>have X_:=(Kd.C_below bh.out HB.out);exact TC);(case side2=>exact a9.out);rintro e wq6 ⟨vq2,rfl,ap,hb⟩;refine⟨_,rfl,?_⟩;have n0_:=aM (Kd.R_elder' (TRf ag) (Kd.R_base ap) hb);have n1_:=aM (Kd.R_lower (Kd.R_new' ap (Kd.R_lt (TRf ag))) (below_size TB));have n2_:=mB ab hb;have n3_:=mB ad hb;have n4_:=mB ac hb;have n5_:=bS HB hb;clear ag;clear ab;clear ad;clear ac;clear HB;have ag:=n0_;have aH:=n1_;have ab:=n2_;have ad:=n3_;have ac:=n4_;have HB:=n5_;clear n0_ n1_ n2_ n3_ n4_ n5_;(try clear hb);(try clear ap);obtain⟨aw,ax,aK⟩:=Kd.R_slice aH.out;(first|subst aK|(injection aK with f1_ f2_ f3_;have f4_:=f1_.symm;have f5_:=f3_.symm;clear f1_ f2_ f3_;subst f4_;subst f5_));obtain⟨au,av,aJ⟩:=Kd.R_slice ag.out;(first|subst aJ|(injection aJ with f1_ f2_ f3_;have f4_:=f1_.symm;have f5_:=f3_.symm;clear f1_ f2_ f3_;subst f4_;subst f5_));refine hK.out _ _ (cz6 ab.out) (fun hHeld=>?_);clear hK K;refine nR ?_;refine pPe 8 (some 14) #[true,true,true,true,true,true,true,true,true,true,false] ?_;exact norm_ (by exact Zq29_2) (hCont (.slice au ak.length av,.slice aw ah.length ax,ae) _ ⟨hHeld,(by exact Zq29_0),(by exact Zq29_1),TK,TK,TK,aV.out,aW.out,aQ.out,aR.out,aT.out,aN.out,TB⟩)):p:=h
theorem impl_copyDisk.calls {k:Nat}{aA:Option Addr}{aC:Nat}{ao:List Int}{ay:Option Addr}{az:Nat}{aj:List Int}{al:Int}{an:Int}{am:Int}{aI:Option Addr}{aG:Nat}{aa:List (S91)}{r1:List Int}{r2:List Int}{r3:Int}{r4:Int}{r5:Int}{r6:List (S91)}{w:World}(bj:Kd.C (Kd.int .u8) w aA ao.length ao)(bi:ao.length≤aC)(bm:Kd.C (Kd.int .u8) w ay aj.length aj)(bl:aj.length≤az)(bk:Kd.C k91 w aI aa.length aa)(bn:aa.length≤aG)(h:impl_copyDisk.f k ao aj al an am aa=some (r1,r2,r3,r4,r5,r6)):
  Calls Tryz.prog 40 #[.agg #[.slice aA ao.length aC,.slice ay aj.length az,.int .i64 al,.int .i64 an,.int .i64 am,.slice aI aa.length aG]] w fun e w'=>∃v0_ v1_ v5_:Value,e=.returned (.agg #[v0_,v1_,.int .i64 r3,.int .i64 r4,.int .i64 r5,v5_])∧Kd.R (Kd.int .u8) 5 w' w.heap.size (fun k_=>some k_≠(v1_:Value).ownBlock) v0_ r1∧Kd.R (Kd.int .u8) 5 w' w.heap.size (fun k_=>some k_≠(v0_:Value).ownBlock) v1_ r2∧Kd.S k91 91 w' w.heap.size (fun k_=>some k_≠(v0_:Value).ownBlock∧some k_≠(v1_:Value).ownBlock) v5_ r6∧Below w.heap.size w w':=by
 have huq1:=Tryz.underlying39;have huq2:=Tryz.underlying36;have huq3:=Tryz.underlying91;have HRq1:=aM bj;have HCq1:=aM bi;clear bj bi;have bh:=aM bm;have a9:=aM bl;clear bm bl;have HRq3:=aM bk;have HCq3:=aM bn;clear bk bn;have HB:=aM (Below.refl w.heap.size w);have H:=h;clear h;unfold impl_copyDisk.f at H;replace H:=bE H;obtain⟨ak,Aq1,H⟩:=H;replace H:=bE H;obtain⟨ah,Aq2,H⟩:=H;have H':=aM H;clear H;go_enter Tryz.func40,Tryz.ntmps40;try go_wp2_with (first|(refine g_D 1 ?_;refine gBx 1 #[.slice aA ao.length aC,.slice ay aj.length az,.int .i64 al,.int .i64 an,.int .i64 am,.slice aI aa.length aG] 39 ?_;intro af hg wq1 hbox hb;have ab:=aM (hbox);have GWq1:=gW HB hg;have GEq1:=gW HB hg;replace HB:=bS HB hb;clear hb hbox hg)|(refine g_D 2 ?_;refine gBx 2 #[.slice none 0 0,.slice none 0 0,.int .i64 0,.int .i64 0,.int .i64 0,.slice none 0 0] 39 ?_;intro gbq2 hg wq2 hbox hb;have ad:=aM (hbox);have GWq2:=gW HB hg;have GEq2:=gW HB hg;obtain⟨NBq1,NBq2⟩:=nB ab hg;replace ab:=mB ab hb;replace HB:=bS HB hb;clear hb hbox hg))
 replace ab:=bD ab;replace ad:=bD ad;replace HB:=aM (below_drew1 HB.out);refine st_ (n:=11) (ds:=[]) #[false,false,false,false,false,false,false,false,false,false,false] (hK6 ab.out) (by kernel_rfl) rfl rfl (fun hHeld=>?_);refine with_tabW impl_copyDisk.tab1 impl_copyDisk.bits1 (fun HT_ HW_=>?_);generalize wq2.drew=wq3 at ab ad HB hHeld ⊢;refine pPe 0 (some 6) #[true,false,false,false,false,false,false,false,false,false,false] ?_;refine pPe 3 (some 9) #[true,false,false,true,false,false,false,false,false,false,false] ?_;refine pPe 6 (some 12) #[true,false,false,true,false,false,true,false,false,false,false] ?_;refine pTe 1 (some 7) #[true,true,false,true,false,false,true,false,false,false,false] ?_;refine pTe 4 (some 10) #[true,true,false,true,true,false,true,false,false,false,false] ?_;refine pTe 7 (some 13) #[true,true,false,true,true,false,true,true,false,false,false] ?_;refine join_ (σ:=Value×Value×Nat) 1 #[true,true,true,true,true,true,true,true,true,true,false] (fun s_=>[(8,s_.1),(11,s_.2.1),(3,.pointer (some ⟨s_.2.2,0,none⟩)),(14,.agg #[s_.1,s_.2.1,.int .i64 al,.int .i64 an,.int .i64 am,.slice none 0 0])]) (fun s_ w'=>(w'.cell? ⟨af,0,none⟩=some (.slice aA ao.length aC)∧w'.cell? ⟨af,1,none⟩=some (.slice ay aj.length az)∧w'.cell? ⟨af,2,none⟩=some (.int .i64 al)∧w'.cell? ⟨af,3,none⟩=some (.int .i64 an)∧w'.cell? ⟨af,4,none⟩=some (.int .i64 am)∧w'.cell? ⟨af,5,none⟩=some (.slice aI aa.length aG))∧(Kd.R (Kd.int .u8) 5 w' w.heap.size (fun k_=>some k_≠(s_.2.1:Value).ownBlock) s_.1 ak)∧(Kd.R (Kd.int .u8) 5 w' w.heap.size (fun k_=>some k_≠(s_.1:Value).ownBlock) s_.2.1 ah)∧(w'.heap[af]?=some (.cells #[.slice aA ao.length aC,.slice ay aj.length az,.int .i64 al,.int .i64 an,.int .i64 am,.slice aI aa.length aG] 39 (0,0)))∧(w'.heap[gbq2]?=some (.cells #[.slice none 0 0,.slice none 0 0,.int .i64 0,.int .i64 0,.int .i64 0,.slice none 0 0] 39 (0,0)))∧(w'.heap[s_.2.2]?=some (.cells #[.slice none 0 0,.slice none 0 0,.int .i64 0,.int .i64 0,.int .i64 0,.slice none 0 0] 39 (0,0)))∧(w.heap.size≤s_.2.2)∧(w.heap.size≤s_.2.2)∧(af≠s_.2.2)∧(s_.2.2≠af)∧(gbq2≠s_.2.2)∧(s_.2.2≠gbq2)∧(Below w.heap.size w w')) ?_ ?_;rotate_left
 ·intro hCont;refine two_ (i:=2) (j:=9) (Ni:=some 8) (Nj:=some 3) #[true,true,true,true,true,false,true,true,false,false,false] #[true,true,false,true,true,false,true,true,false,true,false] rfl rfl rfl rfl (two_of HT_.out (by kernel_rfl)) (by decide) (by decide) (fun K hK=>?_) (fun K hK=>?_)
  ·skip
   refine gG Tryz.func74 #[.slice aA ao.length aC] ?_;with_reducible refine(impl_cloned.calls ?side1 ?side2 Aq1.out).mono ?_
   (case side1=>have X_:=(Kd.C_below HRq1.out HB.out);exact TC);(case side2=>exact HCq1.out);rintro e wq4 ⟨vq1,rfl,ap,hb⟩;refine⟨_,rfl,?_⟩;replace ag:=aM (Kd.R_lower ap (below_size TB));replace ab:=mB ab hb;replace ad:=mB ad hb;replace HB:=bS HB hb;(try clear hb);(try clear ap);refine hK.out _ _ (cz6 ab.out) (fun hHeld=>?_);clear hK K;refine nR ?_;refine two_ (i:=5) (j:=9) (Ni:=some 11) (Nj:=some 3) #[true,true,true,true,true,true,true,true,false,false,false] #[true,true,true,true,true,false,true,true,false,true,false] rfl rfl rfl rfl (two_of HT_.out (by kernel_rfl)) (by decide) (by decide) (fun K hK=>?_) (fun K hK=>?_)
   ·skip
    refine gG Tryz.func74 #[.slice ay aj.length az] ?_;with_reducible refine(impl_cloned.calls ?side1 ?side2 Aq2.out).mono ?_
    (case side1=>have X_:=(Kd.C_below bh.out HB.out);exact TC);(case side2=>exact a9.out);rintro e wq5 ⟨vq2,rfl,ap,hb⟩;refine⟨_,rfl,?_⟩;have n0_:=aM (Kd.R_elder' (TRf ag) (Kd.R_base ap) hb);have n1_:=aM (Kd.R_lower (Kd.R_new' ap (Kd.R_lt (TRf ag))) (below_size TB));have n2_:=mB ab hb;have n3_:=mB ad hb;have n4_:=bS HB hb;clear ag;clear ab;clear ad;clear HB;have ag:=n0_;have aH:=n1_;have ab:=n2_;have ad:=n3_;have HB:=n4_;clear n0_ n1_ n2_ n3_ n4_;(try clear hb);(try clear ap);obtain⟨aw,ax,aK⟩:=Kd.R_slice aH.out;(first|subst aK|(injection aK with f1_ f2_ f3_;have f4_:=f1_.symm;have f5_:=f3_.symm;clear f1_ f2_ f3_;subst f4_;subst f5_));obtain⟨au,av,aJ⟩:=Kd.R_slice ag.out;(first|subst aJ|(injection aJ with f1_ f2_ f3_;have f4_:=f1_.symm;have f5_:=f3_.symm;clear f1_ f2_ f3_;subst f4_;subst f5_));refine hK.out _ _ (cz6 ab.out) (fun hHeld=>?_);clear hK K;refine nR ?_;refine pPe 8 (some 14) #[true,true,true,true,true,true,true,true,true,false,false] ?_;refine pOe 9 (some 3) #[true,true,true,true,true,true,true,true,true,true,false] (fun K hK=>?_);refine box_step ?hg (N:=3) ?hd (cs:=#[.slice none 0 0,.slice none 0 0,.int .i64 0,.int .i64 0,.int .i64 0,.slice none 0 0]) (t:=39) ?hr ?_;(case hd=>rfl);(case hg=>rfl);(case hr=>first|(go_simp;done)|(go_simp;rfl));intro ae hg wq6 hbox hb;have n0_:=mR ag hb;have n1_:=mR aH hb;have n2_:=mB ab hb;have n3_:=mB ad hb;have n4_:=bS HB hb;have n5_:=aM (hbox);have n6_:=aM ((by rw[hg];exact(below_size TB):w.heap.size≤ae));have n7_:=aM ((by rw[hg];exact(below_size TB):w.heap.size≤ae));have n8_:=aM ((by rw[hg];exact Nat.ne_of_lt (blk_lt (g:=af) (o:=.cells #[.slice aA ao.length aC,.slice ay aj.length az,.int .i64 al,.int .i64 an,.int .i64 am,.slice aI aa.length aG] 39 (0,0)) TK):af≠ae));have n9_:=aM ((by rw[hg];exact Nat.ne_of_gt (blk_lt (g:=af) (o:=.cells #[.slice aA ao.length aC,.slice ay aj.length az,.int .i64 al,.int .i64 an,.int .i64 am,.slice aI aa.length aG] 39 (0,0)) TK):ae≠af));have aY:=aM ((by rw[hg];exact Nat.ne_of_lt (blk_lt (g:=gbq2) (o:=.cells #[.slice none 0 0,.slice none 0 0,.int .i64 0,.int .i64 0,.int .i64 0,.slice none 0 0] 39 (0,0)) TK):gbq2≠ae));have n11_:=aM ((by rw[hg];exact Nat.ne_of_gt (blk_lt (g:=gbq2) (o:=.cells #[.slice none 0 0,.slice none 0 0,.int .i64 0,.int .i64 0,.int .i64 0,.slice none 0 0] 39 (0,0)) TK):ae≠gbq2));clear ag;clear aH;clear ab;clear ad;clear HB;have ag:=n0_;have aH:=n1_;have ab:=n2_;have ad:=n3_;have HB:=n4_;have ac:=n5_;have aV:=n6_;have aW:=n7_;have aQ:=n8_;have aR:=n9_;have aT:=aY;have aN:=n11_;clear n0_ n1_ n2_ n3_ n4_ n5_ n6_ n7_ n8_ n9_ aY n11_;clear hb hbox hg;refine hK.out _ _ (cz6 ab.out) (fun hHeld=>?_);clear hK K;refine nR ?_;exact norm_ (by exact Zq29_2) (hCont (.slice au ak.length av,.slice aw ah.length ax,ae) _ ⟨hHeld,(by exact Zq29_0),(by exact Zq29_1),TK,TK,TK,aV.out,aW.out,aQ.out,aR.out,aT.out,aN.out,TB⟩)
   ·skip
    refine box_step ?hg (N:=3) ?hd (cs:=#[.slice none 0 0,.slice none 0 0,.int .i64 0,.int .i64 0,.int .i64 0,.slice none 0 0]) (t:=39) ?hr ?_;(case hd=>rfl);(case hg=>rfl);(case hr=>first|(go_simp;done)|(go_simp;rfl));intro ae hg wq5 hbox hb;have n0_:=mR ag hb;have n1_:=mB ab hb;have n2_:=mB ad hb;have n3_:=bS HB hb;have n4_:=aM (hbox);have n5_:=aM ((by rw[hg];exact(below_size TB):w.heap.size≤ae));have n6_:=aM ((by rw[hg];exact(below_size TB):w.heap.size≤ae));have n7_:=aM ((by rw[hg];exact Nat.ne_of_lt (blk_lt (g:=af) (o:=.cells #[.slice aA ao.length aC,.slice ay aj.length az,.int .i64 al,.int .i64 an,.int .i64 am,.slice aI aa.length aG] 39 (0,0)) TK):af≠ae));have n8_:=aM ((by rw[hg];exact Nat.ne_of_gt (blk_lt (g:=af) (o:=.cells #[.slice aA ao.length aC,.slice ay aj.length az,.int .i64 al,.int .i64 an,.int .i64 am,.slice aI aa.length aG] 39 (0,0)) TK):ae≠af));have n9_:=aM ((by rw[hg];exact Nat.ne_of_lt (blk_lt (g:=gbq2) (o:=.cells #[.slice none 0 0,.slice none 0 0,.int .i64 0,.int .i64 0,.int .i64 0,.slice none 0 0] 39 (0,0)) TK):gbq2≠ae));have aY:=aM ((by rw[hg];exact Nat.ne_of_gt (blk_lt (g:=gbq2) (o:=.cells #[.slice none 0 0,.slice none 0 0,.int .i64 0,.int .i64 0,.int .i64 0,.slice none 0 0] 39 (0,0)) TK):ae≠gbq2));clear ag;clear ab;clear ad;clear HB;have ag:=n0_;have ab:=n1_;have ad:=n2_;have HB:=n3_;have ac:=n4_;have aV:=n5_;have aW:=n6_;have aQ:=n7_;have aR:=n8_;have aT:=n9_;have aN:=aY;clear n0_ n1_ n2_ n3_ n4_ n5_ n6_ n7_ n8_ n9_ aY;clear hb hbox hg;exact Yq29_0
  ·skip
   refine box_step ?hg (N:=3) ?hd (cs:=#[.slice none 0 0,.slice none 0 0,.int .i64 0,.int .i64 0,.int .i64 0,.slice none 0 0]) (t:=39) ?hr ?_;(case hd=>rfl);(case hg=>rfl);(case hr=>first|(go_simp;done)|(go_simp;rfl));intro ae hg wq4 hbox hb;have n0_:=mB ab hb;have n1_:=mB ad hb;have n2_:=bS HB hb;have n3_:=aM (hbox);have n4_:=aM ((by rw[hg];exact(below_size TB):w.heap.size≤ae));have n5_:=aM ((by rw[hg];exact(below_size TB):w.heap.size≤ae));have n6_:=aM ((by rw[hg];exact Nat.ne_of_lt (blk_lt (g:=af) (o:=.cells #[.slice aA ao.length aC,.slice ay aj.length az,.int .i64 al,.int .i64 an,.int .i64 am,.slice aI aa.length aG] 39 (0,0)) TK):af≠ae));have n7_:=aM ((by rw[hg];exact Nat.ne_of_gt (blk_lt (g:=af) (o:=.cells #[.slice aA ao.length aC,.slice ay aj.length az,.int .i64 al,.int .i64 an,.int .i64 am,.slice aI aa.length aG] 39 (0,0)) TK):ae≠af));have n8_:=aM ((by rw[hg];exact Nat.ne_of_lt (blk_lt (g:=gbq2) (o:=.cells #[.slice none 0 0,.slice none 0 0,.int .i64 0,.int .i64 0,.int .i64 0,.slice none 0 0] 39 (0,0)) TK):gbq2≠ae));have n9_:=aM ((by rw[hg];exact Nat.ne_of_gt (blk_lt (g:=gbq2) (o:=.cells #[.slice none 0 0,.slice none 0 0,.int .i64 0,.int .i64 0,.int .i64 0,.slice none 0 0] 39 (0,0)) TK):ae≠gbq2));clear ab;clear ad;clear HB;have ab:=n0_;have ad:=n1_;have HB:=n2_;have ac:=n3_;have aV:=n4_;have aW:=n5_;have aQ:=n6_;have aR:=n7_;have aT:=n8_;have aN:=n9_;clear n0_ n1_ n2_ n3_ n4_ n5_ n6_ n7_ n8_ n9_;clear hb hbox hg;refine hK.out _ _ (cz6 ab.out) (fun hHeld=>?_);clear hK K;refine nR ?_;refine pOe 2 (some 8) #[true,true,true,true,true,false,true,true,false,true,false] (fun K hK=>?_);refine gG Tryz.func74 #[.slice aA ao.length aC] ?_;with_reducible refine(impl_cloned.calls ?side1 ?side2 Aq1.out).mono ?_
   (case side1=>have X_:=(Kd.C_below HRq1.out HB.out);exact TC);(case side2=>exact HCq1.out);rintro e wq5 ⟨vq1,rfl,ap,hb⟩;refine⟨_,rfl,?_⟩;replace ag:=aM (Kd.R_lower ap (below_size TB));replace ab:=mB ab hb;replace ad:=mB ad hb;replace ac:=mB ac hb;replace HB:=bS HB hb;(try clear hb);(try clear ap);exact Yq29_0
 rintro⟨vq1,vq2,ae⟩ wq4 ⟨hS_,h0_,h1_,h2_,h3_,h4_,h5_,h6_,h7_,h8_,h9_,h10_,h11_⟩;clear ab ad HB;have ag:Aside0 (Kd.R (Kd.int .u8) 5 wq4 w.heap.size (fun k_=>some k_≠(vq2:Value).ownBlock) vq1 ak):=⟨h0_⟩;have aH:Aside0 (Kd.R (Kd.int .u8) 5 wq4 w.heap.size (fun k_=>some k_≠(vq1:Value).ownBlock) vq2 ah):=⟨h1_⟩;have ab:Aside0 (wq4.heap[af]?=some (.cells #[.slice aA ao.length aC,.slice ay aj.length az,.int .i64 al,.int .i64 an,.int .i64 am,.slice aI aa.length aG] 39 (0,0))):=⟨h2_⟩;have ad:Aside0 (wq4.heap[gbq2]?=some (.cells #[.slice none 0 0,.slice none 0 0,.int .i64 0,.int .i64 0,.int .i64 0,.slice none 0 0] 39 (0,0))):=⟨h3_⟩;have ac:Aside0 (wq4.heap[ae]?=some (.cells #[.slice none 0 0,.slice none 0 0,.int .i64 0,.int .i64 0,.int .i64 0,.slice none 0 0] 39 (0,0))):=⟨h4_⟩;have aV:Aside0 (w.heap.size≤ae):=⟨h5_⟩;have aW:Aside0 (w.heap.size≤ae):=⟨h6_⟩;have aQ:Aside0 (af≠ae):=⟨h7_⟩;have aR:Aside0 (ae≠af):=⟨h8_⟩;have aT:Aside0 (gbq2≠ae):=⟨h9_⟩;have aN:Aside0 (ae≠gbq2):=⟨h10_⟩;have HB:Aside0 (Below w.heap.size w wq4):=⟨h11_⟩;clear h0_ h1_ h2_ h3_ h4_ h5_ h6_ h7_ h8_ h9_ h10_ h11_;have hHeld:wq4.cell? ⟨af,0,none⟩=some (.slice aA ao.length aC)∧wq4.cell? ⟨af,1,none⟩=some (.slice ay aj.length az)∧wq4.cell? ⟨af,2,none⟩=some (.int .i64 al)∧wq4.cell? ⟨af,3,none⟩=some (.int .i64 an)∧wq4.cell? ⟨af,4,none⟩=some (.int .i64 am)∧wq4.cell? ⟨af,5,none⟩=some (.slice aI aa.length aG):=hS_;obtain⟨aw,ax,aK⟩:=Kd.R_slice aH.out;(first|subst aK|(injection aK with f1_ f2_ f3_;have f4_:=f1_.symm;have f5_:=f3_.symm;clear f1_ f2_ f3_;subst f4_;subst f5_));obtain⟨au,av,aJ⟩:=Kd.R_slice ag.out;(first|subst aJ|(injection aJ with f1_ f2_ f3_;have f4_:=f1_.symm;have f5_:=f3_.symm;clear f1_ f2_ f3_;subst f4_;subst f5_));refine norm_ (a':=?_) ?_ ?_;rotate_left
 ·simp only[putAll,Act.put,List.setIfInBounds_toArray,List.set_cons_zero,List.set_cons_succ];rfl
 refine pOe 10 none #[true,true,true,true,true,true,true,true,true,true,true] (fun K hK=>?_);have hsq1:wq4.cell? ⟨ae,0,none⟩=some (.slice none 0 0):=bC ac 0;have hfsq1:=blk_frozen ac.out 0;have hnsq1:=aQ.out;have hnsq2:=aT.out;have hmsq1:=aR.out;have hmsq2:=aN.out;have hsq2:wq4.cell? ⟨ae,1,none⟩=some (.slice none 0 0):=bC ac 1;have hfsq2:=blk_frozen ac.out 1;have hsq3:wq4.cell? ⟨ae,2,none⟩=some (.int .i64 0):=bC ac 2;have hfsq3:=blk_frozen ac.out 2;have hsq4:wq4.cell? ⟨ae,3,none⟩=some (.int .i64 0):=bC ac 3;have hfsq4:=blk_frozen ac.out 3;have hsq5:wq4.cell? ⟨ae,4,none⟩=some (.int .i64 0):=bC ac 4;have hfsq5:=blk_frozen ac.out 4;have hsq6:wq4.cell? ⟨ae,5,none⟩=some (.slice none 0 0):=bC ac 5;have hfsq6:=blk_frozen ac.out 5;refine skip_ (w1:=?_) (by rfl) rfl ?_ ?_;rotate_left
 ·go_simp;rfl
 refine hK.out _ _ ⟨(cf hHeld.1),(cf hHeld.2.1),(cf hHeld.2.2.1),(cf hHeld.2.2.2.1),(cf hHeld.2.2.2.2.1),(cf hHeld.2.2.2.2.2)⟩ (fun hHeld=>?_);clear hK K;refine done_ (done_of HT_.out (by kernel_rfl)) ?_;obtain⟨hnbq1,hncq1⟩:=oB NBq1;obtain⟨hnbq2,hncq2⟩:=oB aQ;obtain⟨hczq1,hczq2,hczq3,hczq4,hczq5,hczq6⟩:=cz6 ab.out;obtain⟨hfzq1,hfzq2,hfzq3,hfzq4,hfzq5,hfzq6⟩:=fz6 ab.out;try go_wp2
 go_loopg [18] k (fun kq vq3 w'=>∃(xq1:Int) (xq2:List (S91)) (uq1:Value),vq3=.int .i64 xq1∧Aside0 (impl_copyDisk.l0 kq aa (aa.length:Int) xq1 ak ah al an am xq2=some (r1,r2,r3,r4,r5,r6))∧Aside0 (kq≤k)∧Aside0 (Kd.R (Kd.int .u8) 5 w' w.heap.size (fun k_=>some k_≠((.slice aw ah.length ax):Value).ownBlock) (.slice au ak.length av) ak)∧Aside0 (Kd.R (Kd.int .u8) 5 w' w.heap.size (fun k_=>some k_≠((.slice au ak.length av):Value).ownBlock) (.slice aw ah.length ax) ah)∧Aside0 (Kd.S k91 91 w' w.heap.size (fun k_=>some k_≠((.slice au ak.length av):Value).ownBlock∧some k_≠((.slice aw ah.length ax):Value).ownBlock) uq1 xq2)∧Aside0 (w'.heap[af]?=some (.cells #[(.slice aA ao.length aC),(.slice ay aj.length az),.int .i64 al,.int .i64 an,.int .i64 am,(.slice aI aa.length aG)] 39 (0,0)))∧Aside0 (w'.heap[gbq2]?=some (.cells #[(.slice none 0 0),(.slice none 0 0),.int .i64 0,.int .i64 0,.int .i64 0,(.slice none 0 0)] 39 (0,0)))∧Aside0 (w'.heap[ae]?=some (.cells #[(.slice au ak.length av),(.slice aw ah.length ax),.int .i64 al,.int .i64 an,.int .i64 am,uq1] 39 (0,0)))∧Aside0 (Below w.heap.size w w'))
 case atStart=>exact⟨(0),(([]:List (S91))),(.slice none 0 0),TF,H',⟨Nat.le_refl _⟩,⟨by (with_reducible repeat (first|apply Kd.R_alloc|apply Kd.R_drewN|apply Kd.R_drew));exact Kd.R_mono (RK1 (Kd.R_types ag.out ac.out (by decide))) (fun _ hk=>hk.1)⟩,⟨by (with_reducible repeat (first|apply Kd.R_alloc|apply Kd.R_drewN|apply Kd.R_drew));exact Kd.R_mono (RK1 (Kd.R_types aH.out ac.out (by decide))) (fun _ hk=>hk.1)⟩,⟨by first|exact Kd.S_nil _ _ _ _ _|exact Kd.N_nil _ _ _ _ _|exact Kd.V_nil _ _ _ _ _|exact Kd.Q_nil _ _ _ _ _|exact Kd.R_nil _ _ _ _ _⟩,⟨(TZ ab)⟩,⟨(TZ ad)⟩,⟨(blk_put (blk_put (blk_put (blk_put (blk_put (blk_put (cs:=#[.slice none 0 0,.slice none 0 0,.int .i64 0,.int .i64 0,.int .i64 0,.slice none 0 0]) (TZ ac) 0 _ rfl) 1 _ rfl) 2 _ rfl) 3 _ rfl) 4 _ rfl) 5 _ rfl)⟩,⟨TB⟩⟩
 case round=>
  clear H';try clear hczq1
  try clear hczq2
  try clear hczq3
  try clear hczq4
  try clear hczq5
  try clear hczq6
  try clear hfzq1
  try clear hfzq2
  try clear hfzq3
  try clear hfzq4
  try clear hfzq5
  try clear hfzq6
  obtain⟨xq1,xq2,uq1,rfl,HA,HKq1,aE,aD,aq,ab,ad,ac,HB⟩:=hrel;cases gk with
  |zero=>exact absurd HA.out (by simp [impl_copyDisk.l0])
  | succ k1=>
   have H:=HA.out;clear HA;simp only[impl_copyDisk.l0] at H
   by_cases cq6:xq1<(aa.length:Int)
   ·rw[if_pos cq6] at H;have cq7:decide (xq1<(aa.length:Int))=true:=decide_eq_true cq6;clear cq6;replace H:=ifN H;obtain⟨cq8,H⟩:=H;have cq9:decide (0≤xq1)=true:=decide_eq_true cq8;clear cq8;replace H:=ifN H;obtain⟨cq10,H⟩:=H;have cq11:decide (xq1<(aa.length:Int))=true:=decide_eq_true cq10;clear cq10;replace H:=bE H;obtain⟨⟨tq1,tq2,tq3,tq4,tq5,tq6⟩,Aq3,H⟩:=H;dsimp only at H;replace H:=ifN H;obtain⟨cq12,H⟩:=H;have LMcq1:=aM cq12;clear cq12;obtain⟨yq1,bd⟩:∃y_:List (S91),y_=(xq2++[(⟨tq1,tq2,tq3,(⟨tq4,tq5,tq6⟩:S36)⟩:S91)]):=⟨_,rfl⟩;rw[← bd] at H;have Nyq1:=aM bd;clear bd;have H':=aM H;clear H;have pq2:0≤(xq1:Int):=DT;have qq1:xq1<(aa.length:Int):=DT;obtain⟨adq1,Aq4,aU,eq1,bg,bf,be,ba,bb,bc,hlq1,hiq1⟩:=at_T91 HRq3.out xq1 pq2 qq1;cases eq1;replace bg:=(HB.out.cell (World.block_lt_of_cell? w _ bg)).trans bg;replace bf:=(HB.out.cell (World.block_lt_of_cell? w _ bf)).trans bf;replace be:=(HB.out.cell (World.block_lt_of_cell? w _ be)).trans be;replace ba:=(HB.out.cell (World.block_lt_of_cell? w _ ba)).trans ba;replace bb:=(HB.out.cell (World.block_lt_of_cell? w _ bb)).trans bb;replace bc:=(HB.out.cell (World.block_lt_of_cell? w _ bc)).trans bc;have HRq4:=aM hiq1;have HCq4:=aM hlq1;clear hiq1 hlq1;replace pq2:=eq_true pq2;replace qq1:=eq_true qq1;try go_wp2_with (first|(refine g_D 5 ?_;refine gBx 5 #[.int .i64 0,.int .i64 0,.slice none 0 0,.int .i64 0,.int .i64 0,.int .i64 0] 91 ?_;intro ar hg wq5 hbox hb;have ai:=aM (hbox);have GWq4:=gW HB hg;have GEq4:=gW HB hg;obtain⟨NBq7,NBq8⟩:=nB ab hg;obtain⟨NBq9,NBq10⟩:=nB ad hg;obtain⟨NBq11,NBq12⟩:=nB ac hg;replace aE:=mR aE hb;replace aD:=mR aD hb;replace aq:=aM (Kd.S_below (Kd.S_elderB (by have X_:=aq.out;exact TS) ar (Nat.le_of_eq hg.symm)) hb);replace ab:=mB ab hb;replace ad:=mB ad hb;replace ac:=mB ac hb;replace HB:=bS HB hb;clear hb hbox hg;obtain⟨hnbq3,hncq3⟩:=oB NBq8;obtain⟨hnbq4,hncq4⟩:=oB NBq10;obtain⟨hnbq5,hncq5⟩:=oB NBq12;obtain⟨hczq7,hczq8,hczq9,bs,br,bo⟩:=cz6 ai.out;obtain⟨hfzq7,hfzq8,hfzq9,bp,bt,bq⟩:=fz6 ai.out))
    generalize hX_:(((((wq5.setCell ⟨ar,0,none⟩ (.int .i64 ((rd_T91 aa xq1).f0))).setCell ⟨ar,1,none⟩ (.int .i64 ((rd_T91 aa xq1).f1))).setCell ⟨ar,2,none⟩ (.slice Aq4 ((rd_T91 aa xq1).f2).length aU)).setCell ⟨ar,3,none⟩ (.int .i64 ((rd_T91 aa xq1).f3.f0))).setCell ⟨ar,4,none⟩ (.int .i64 ((rd_T91 aa xq1).f3.f1))).setCell ⟨ar,5,none⟩ (.int .i64 ((rd_T91 aa xq1).f3.f2))=wq6;replace aE:Aside0 (Kd.R (Kd.int .u8) 5 wq6 w.heap.size (fun k_=>some k_≠(.slice aw ah.length ax:Value).ownBlock) (.slice au ak.length av) ak):=⟨by rw[← hX_];(with_reducible repeat (first|apply Kd.R_alloc|apply Kd.R_drewN|apply Kd.R_drew));exact Kd.R_mono (RK1 (Kd.R_types aE.out ai.out (by decide))) (fun _ hk=>hk.1)⟩;replace aD:Aside0 (Kd.R (Kd.int .u8) 5 wq6 w.heap.size (fun k_=>some k_≠(.slice au ak.length av:Value).ownBlock) (.slice aw ah.length ax) ah):=⟨by rw[← hX_];(with_reducible repeat (first|apply Kd.R_alloc|apply Kd.R_drewN|apply Kd.R_drew));exact Kd.R_mono (RK1 (Kd.R_types aD.out ai.out (by decide))) (fun _ hk=>hk.1)⟩;replace aq:Aside0 (Kd.S k91 91 wq6 w.heap.size (fun k_=>some k_≠(.slice au ak.length av:Value).ownBlock∧some k_≠(.slice aw ah.length ax:Value).ownBlock∧k_≠ar) uq1 xq2):=⟨by rw[← hX_];(with_reducible repeat (first|apply Kd.S_alloc|apply Kd.S_drewN|apply Kd.S_drew));exact Kd.S_mono (Kd.S_far (p:=⟨ar,5,none⟩) (Kd.S_far (p:=⟨ar,4,none⟩) (Kd.S_far (p:=⟨ar,3,none⟩) (Kd.S_far (p:=⟨ar,2,none⟩) (Kd.S_far (p:=⟨ar,1,none⟩) (Kd.S_far (p:=⟨ar,0,none⟩) (Kd.S_mono aq.out (fun k_ hk=>(⟨hk,hk.2⟩:_∧k_≠ar))) (fun _ hk=>hk.2) (.int .i64 ((rd_T91 aa xq1).f0))) (fun _ hk=>hk.2) (.int .i64 ((rd_T91 aa xq1).f1))) (fun _ hk=>hk.2) (.slice Aq4 ((rd_T91 aa xq1).f2).length aU)) (fun _ hk=>hk.2) (.int .i64 ((rd_T91 aa xq1).f3.f0))) (fun _ hk=>hk.2) (.int .i64 ((rd_T91 aa xq1).f3.f1))) (fun _ hk=>hk.2) (.int .i64 ((rd_T91 aa xq1).f3.f2))) (fun _ hk=>⟨hk.1.1.1,⟨hk.1.1.2,hk.1.2⟩⟩)⟩;replace ab:Aside0 (wq6.heap[af]?=some (.cells #[.slice aA ao.length aC,.slice ay aj.length az,.int .i64 al,.int .i64 an,.int .i64 am,.slice (some adq1) aa.length aG] 39 (0,0))):=⟨by rw[← hX_];exact(TZ ab)⟩;replace ad:Aside0 (wq6.heap[gbq2]?=some (.cells #[.slice none 0 0,.slice none 0 0,.int .i64 0,.int .i64 0,.int .i64 0,.slice none 0 0] 39 (0,0))):=⟨by rw[← hX_];exact(TZ ad)⟩;replace ac:Aside0 (wq6.heap[ae]?=some (.cells #[.slice au ak.length av,.slice aw ah.length ax,.int .i64 al,.int .i64 an,.int .i64 am,uq1] 39 (0,0))):=⟨by rw[← hX_];exact(TZ ac)⟩;replace ai:Aside0 (wq6.heap[ar]?=some (.cells #[.int .i64 ((rd_T91 aa xq1).f0),.int .i64 ((rd_T91 aa xq1).f1),.slice Aq4 ((rd_T91 aa xq1).f2).length aU,.int .i64 ((rd_T91 aa xq1).f3.f0),.int .i64 ((rd_T91 aa xq1).f3.f1),.int .i64 ((rd_T91 aa xq1).f3.f2)] 91 (0,0))):=⟨by rw[← hX_];exact(blk_put (blk_put (blk_put (blk_put (blk_put (blk_put (cs:=#[.int .i64 0,.int .i64 0,.slice none 0 0,.int .i64 0,.int .i64 0,.int .i64 0]) (TZ ai) 0 _ rfl) 1 _ rfl) 2 _ rfl) 3 _ rfl) 4 _ rfl) 5 _ rfl)⟩;replace HB:Aside0 (Below w.heap.size w wq6):=⟨by rw[← hX_];exact TB⟩;clear hX_;replace aE:=rD aE;replace aD:=rD aD;replace aq:=aM (Kd.S_drew aq.out);replace ab:=bD ab;replace ad:=bD ad;replace ac:=bD ac;replace ai:=bD ai;replace HB:=aM (below_drew1 HB.out);refine st_ (n:=8) (ds:=[7]) #[false,false,false,false,false,false,false,false] (hJ6 ac.out (hK6 ai.out)) (by kernel_rfl) rfl rfl (fun hHeld=>?_);refine with_tabW impl_copyDisk.tab5 impl_copyDisk.bits5 (fun HT_ HW_=>?_);generalize wq6.drew=wq7 at aE aD aq ab ad ac ai HB hHeld ⊢;refine pPe 0 (some 22) #[true,false,false,false,false,false,false,false] ?_;refine pTe 1 (some 23) #[true,true,false,false,false,false,false,false] ?_;refine pTe 2 (some 24) #[true,true,true,false,false,false,false,false] ?_;refine pOe 3 (some 25) #[true,true,true,true,false,false,false,false] (fun K hK=>?_);refine gG Tryz.func75 #[.agg #[.int .i64 ((rd_T91 aa xq1).f0),.int .i64 ((rd_T91 aa xq1).f1),.slice Aq4 ((rd_T91 aa xq1).f2).length aU,.int .i64 ((rd_T91 aa xq1).f3.f0),.int .i64 ((rd_T91 aa xq1).f3.f1),.int .i64 ((rd_T91 aa xq1).f3.f2)]] ?_;with_reducible refine(impl_copyPut.calls ?side1 ?side2 Aq3.out).mono ?_
    (case side1=>have X_:=(Kd.C_below HRq4.out HB.out);exact TC);(case side2=>exact HCq4.out);rintro e wq8 ⟨vq4,rfl,ap,hb⟩;refine⟨_,rfl,?_⟩;have n0_:=aM (Kd.R_elder' (TRf aE) (Kd.R_base ap) hb);have n1_:=aM (Kd.R_elder' (TRf aD) (Kd.R_base ap) hb);have n2_:=aM (Kd.S_elder' (by have X_:=aq.out;exact TS) (Kd.R_base ap) hb);have n3_:=aM (Kd.R_lower (Kd.R_new' (Kd.R_new' ap (Kd.R_lt (TRf aE))) (Kd.R_lt (TRf aD))) (below_size TB));have n4_:=mB ab hb;have n5_:=mB ad hb;have n6_:=mB ac hb;have n7_:=mB ai hb;have n8_:=bS HB hb;clear aE;clear aD;clear aq;clear ab;clear ad;clear ac;clear ai;clear HB;have aE:=n0_;have aD:=n1_;have aq:=n2_;have a6:=n3_;have ab:=n4_;have ad:=n5_;have ac:=n6_;have ai:=n7_;have HB:=n8_;clear n0_ n1_ n2_ n3_ n4_ n5_ n6_ n7_ n8_;(try clear hb);(try clear hk);(try clear ap);obtain⟨aZ,a7,a8⟩:=Kd.R_slice a6.out;(first|subst a8|(injection a8 with f1_ f2_ f3_;have f4_:=f1_.symm;have f5_:=f3_.symm;clear f1_ f2_ f3_;subst f4_;subst f5_));refine hK.out _ _ (cJ6 ac.out (cK6 ai.out)) (fun hHeld=>?_);clear hK K;refine nR ?_;refine pOe 4 (some 26) #[true,true,true,true,true,false,false,false] (fun K hK=>?_);refine value_ (w1:=?_) (v:=?_) (by rfl) rfl ?_ ?_;rotate_left 2
    ·go_simp
     constructor
     ·rfl
     ·rfl
    refine hK.out _ _ ⟨(blk_cell (blk_alloc ac.out _) 0).trans rfl,(blk_cell (blk_alloc ac.out _) 1).trans rfl,(blk_cell (blk_alloc ac.out _) 2).trans rfl,(blk_cell (blk_alloc ac.out _) 3).trans rfl,(blk_cell (blk_alloc ac.out _) 4).trans rfl,(blk_cell (blk_alloc ac.out _) 5).trans rfl,(blk_cell (blk_alloc ai.out _) 0).trans rfl,(blk_cell (blk_alloc ai.out _) 1).trans rfl,(blk_cell (blk_alloc ai.out _) 2).trans rfl,(blk_cell (blk_alloc ai.out _) 3).trans rfl,(blk_cell (blk_alloc ai.out _) 4).trans rfl,(blk_cell (blk_alloc ai.out _) 5).trans rfl⟩ (fun hHeld=>?_);clear hK K;refine nR ?_;refine pOe 5 (some 27) #[true,true,true,true,true,true,false,false] (fun K hK=>?_);refine Kd.S_append_step k91 (w0:=w) w.heap.size (by rfl) (.tmp 23) (.tmp 26) 37 91 (.agg #[(.int .i64 0),(.int .i64 0),(.slice none 0 0),(.int .i64 0),(.int .i64 0),(.int .i64 0)]) 64 rfl Tryz.underlying37 info91 rfl (by decide) (by omega) uq1 xq2 (⟨tq1,tq2,tq3,(⟨tq4,tq5,tq6⟩:S36)⟩:S91) [.int .i64 tq1,.int .i64 tq2,.slice aZ tq3.length a7,.int .i64 tq4,.int .i64 tq5,.int .i64 tq6] (fun k_=>some k_≠(.slice au ak.length av:Value).ownBlock∧some k_≠(.slice aw ah.length ax:Value).ownBlock∧k_≠ar) (fun k_=>some k_=(.slice aZ tq3.length a7:Value).ownBlock) rfl rfl ?aP (fun k_ hk_=>((Kd.R_mono (ok':=fun k_=>((fun k_=>some k_≠(.slice au ak.length av:Value).ownBlock∧some k_≠(.slice aw ah.length ax:Value).ownBlock∧k_≠ar)) k_∧some k_≠(uq1:Value).ownBlock) (Kd.R_types (Kd.R_apart' (a6.out) (Kd.S_typed aq.out) (by decide)) ai.out (by decide)) (fun k_ hk=>⟨⟨hk.1.1.1.2,⟨hk.1.1.2,hk.2⟩⟩,hk.1.2⟩))).1 k_ hk_.symm) ?aF ?aO ?aB ?aS ?aL ?_;(case aP=>exact k91_mkM _ _ _ (⟨tq1,tq2,tq3,(⟨tq4,tq5,tq6⟩:S36)⟩:S91) (Kd.R_mono (Kd.R_tight rfl (Kd.R_mono (ok':=fun k_=>((fun k_=>some k_≠(.slice au ak.length av:Value).ownBlock∧some k_≠(.slice aw ah.length ax:Value).ownBlock∧k_≠ar)) k_∧some k_≠(uq1:Value).ownBlock) (Kd.R_types (Kd.R_apart' (a6.out) (Kd.S_typed aq.out) (by decide)) ai.out (by decide)) (fun k_ hk=>⟨⟨hk.1.1.1.2,⟨hk.1.1.2,hk.2⟩⟩,hk.1.2⟩))) (fun _ h_=>h_)));(case aB=>exact TB);(case aF=>exact(fun k_ hk=>⟨Kd.fresh' (Kd.R_lt (TRf aE)) k_ hk,Kd.fresh' (Kd.R_lt (TRf aD)) k_ hk,Kd.freshB (g:=ar) (o:=.cells #[.int .i64 ((rd_T91 aa xq1).f0),.int .i64 ((rd_T91 aa xq1).f1),.slice Aq4 ((rd_T91 aa xq1).f2).length aU,.int .i64 ((rd_T91 aa xq1).f3.f0),.int .i64 ((rd_T91 aa xq1).f3.f1),.int .i64 ((rd_T91 aa xq1).f3.f2)] 91 (0,0)) TK k_ hk⟩));(case aO=>exact(by (with_reducible repeat (first|apply Kd.S_alloc|apply Kd.S_drewN|apply Kd.S_drew));exact Kd.S_mono aq.out (fun k_ hk=>⟨⟨hk.1.1,⟨hk.1.2.1,hk.1.2.2⟩⟩,fun e_=>hk.2 e_⟩)));(case aS=>exact(below_size TB));(case aL=>have:=LMcq1.out;omega);intro vq5 wq9 ho hb hg hat;rw[← Nyq1.out] at ho;have n0_:=aM (Kd.R_over' (TRf aE) (Kd.S_typed (by have X_:=aq.out;exact TS)) (by decide) hg);have n1_:=aM (Kd.R_over' (TRf aD) (Kd.S_typed (by have X_:=aq.out;exact TS)) (by decide) hg);have n2_:=aM (blk_grown (g:=af) (o:=.cells #[.slice aA ao.length aC,.slice ay aj.length az,.int .i64 al,.int .i64 an,.int .i64 am,.slice (some adq1) aa.length aG] 39 (0,0)) TK hg (Kd.S_ne aq.out ab.out (by decide)));have n3_:=aM (blk_grown (g:=gbq2) (o:=.cells #[.slice none 0 0,.slice none 0 0,.int .i64 0,.int .i64 0,.int .i64 0,.slice none 0 0] 39 (0,0)) TK hg (Kd.S_ne aq.out ad.out (by decide)));have n4_:=aM (blk_grown (g:=ae) (o:=.cells #[.slice au ak.length av,.slice aw ah.length ax,.int .i64 al,.int .i64 an,.int .i64 am,uq1] 39 (0,0)) TK hg (Kd.S_ne aq.out ac.out (by decide)));have n5_:=aM (blk_grown (g:=ar) (o:=.cells #[.int .i64 ((rd_T91 aa xq1).f0),.int .i64 ((rd_T91 aa xq1).f1),.slice Aq4 ((rd_T91 aa xq1).f2).length aU,.int .i64 ((rd_T91 aa xq1).f3.f0),.int .i64 ((rd_T91 aa xq1).f3.f1),.int .i64 ((rd_T91 aa xq1).f3.f2)] 91 (0,0)) TK hg (Kd.S_away aq.out (fun _ hk=>hk.1.2.2)));have n6_:=aM (hb);have n7_:=aM (ho);clear aE;clear aD;clear ab;clear ad;clear ac;clear ai;clear HB;clear aq;clear a6;have aE:=n0_;have aD:=n1_;have ab:=n2_;have ad:=n3_;have ac:=n4_;have ai:=n5_;have HB:=n6_;have HOq7:=n7_;clear n0_ n1_ n2_ n3_ n4_ n5_ n6_ n7_;clear ho hb hg hat;obtain⟨Aoq4,coq4,eoq4⟩:=Kd.S_slice HOq7.out;(first|subst eoq4|(injection eoq4 with f1_ f2_ f3_;have f4_:=f1_.symm;have f5_:=f3_.symm;clear f1_ f2_ f3_;subst f4_;subst f5_));refine hK.out _ _ (cJ6 ac.out (cK6 ai.out)) (fun hHeld=>?_);clear hK K;refine nR ?_;refine pPe 6 (some 28) #[true,true,true,true,true,true,true,false] ?_;refine pLe 7 none #[true,true,true,true,true,true,true,true] (fun K hK=>?_);have hsq7:wq9.cell? ⟨ae,5,none⟩=some (uq1):=bC ac 5;have hfsq7:=blk_frozen ac.out 5;have hnsq3:=NBq12.out;have hmsq3:=NBq11.out;refine skip_ (w1:=?_) (by rfl) rfl ?_ ?_;rotate_left
    ·go_simp;rfl
    refine hK.out _ _ ?_;clear hK K;refine done_ (done_of HT_.out (by kernel_rfl)) ?_;try go_wp2
    go_roundg k1
    case measure=>have:=HKq1.out;omega
    case rel=>exact⟨(wrap64 (xq1+1)),(yq1),(.slice Aoq4 yq1.length coq4),TF,H',⟨by have:=HKq1.out;omega⟩,⟨by (with_reducible repeat (first|apply Kd.R_alloc|apply Kd.R_drewN|apply Kd.R_drew));exact Kd.R_mono (RK1 (Kd.R_types aE.out ac.out (by decide))) (fun _ hk=>hk.1.1)⟩,⟨by (with_reducible repeat (first|apply Kd.R_alloc|apply Kd.R_drewN|apply Kd.R_drew));exact Kd.R_mono (RK1 (Kd.R_types aD.out ac.out (by decide))) (fun _ hk=>hk.1.1)⟩,⟨by (with_reducible repeat (first|apply Kd.S_alloc|apply Kd.S_drewN|apply Kd.S_drew));exact Kd.S_mono (SK1 (Kd.S_types HOq7.out ac.out (by decide))) (fun _ hk=>⟨hk.1.1,hk.1.2.1⟩)⟩,⟨(TZ ab)⟩,⟨(TZ ad)⟩,⟨(blk_put (cs:=#[.slice au ak.length av,.slice aw ah.length ax,.int .i64 al,.int .i64 an,.int .i64 am,uq1]) (TZ ac) 5 _ rfl)⟩,⟨TB⟩⟩
   ·rw[if_neg cq6] at H;have cq7:decide (xq1<(aa.length:Int))=false:=decide_eq_false cq6;clear cq6;simp only[Option.some.injEq,Prod.mk.injEq] at H;obtain⟨rfl,rfl,rfl,rfl,rfl,rfl⟩:=H;obtain⟨hnbq3,hncq3⟩:=oB aR;obtain⟨hnbq4,hncq4⟩:=oB aN;obtain⟨hczq7,hczq8,hczq9,bs,br,bo⟩:=cz6 ac.out;obtain⟨hfzq7,hfzq8,hfzq9,bp,bt,bq⟩:=fz6 ac.out;obtain⟨hnbq5,hncq5⟩:=oB NBq2;obtain⟨hczq13,hczq14,hczq15,hczq16,hczq17,hczq18⟩:=cz6 ad.out;obtain⟨hfzq13,hfzq14,hfzq15,hfzq16,hfzq17,hfzq18⟩:=fz6 ad.out;obtain⟨aZ,a7,a8⟩:=Kd.S_slice aq.out;subst a8;go_wp2
    refine bodyPost_ret (results_cell_row rfl _ _ gbq2 39 #[.slice au ak.length av,.slice aw ah.length ax,.int .i64 al,.int .i64 an,.int .i64 am,.slice aZ xq2.length a7] (0,0) _ rfl (blk_put (blk_put (blk_put (blk_put (blk_put (blk_put (cs:=#[.slice none 0 0,.slice none 0 0,.int .i64 0,.int .i64 0,.int .i64 0,.slice none 0 0]) (TZ ad) 0 _ rfl) 1 _ rfl) 2 _ rfl) 3 _ rfl) 4 _ rfl) 5 _ rfl) Tryz.underlying39 rfl (by kernel_rfl)) rfl ?_;exact⟨_,_,_,TE,by (with_reducible repeat (first|apply Kd.R_alloc|apply Kd.R_drewN|apply Kd.R_drew));exact Kd.R_mono (RK1 (Kd.R_types aE.out ad.out (by decide))) (fun _ hk=>hk.1),by (with_reducible repeat (first|apply Kd.R_alloc|apply Kd.R_drewN|apply Kd.R_drew));exact Kd.R_mono (RK1 (Kd.R_types aD.out ad.out (by decide))) (fun _ hk=>hk.1),by (with_reducible repeat (first|apply Kd.S_alloc|apply Kd.S_drewN|apply Kd.S_drew));exact Kd.S_mono (SK1 (Kd.S_types aq.out ad.out (by decide))) (fun _ hk=>⟨hk.1.1,hk.1.2⟩),TB⟩
end Go.Proofs.YtjgmkkogmfogbaaGreat.Q
