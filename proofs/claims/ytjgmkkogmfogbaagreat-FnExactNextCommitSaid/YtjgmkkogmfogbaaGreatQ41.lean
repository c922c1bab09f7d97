/- Functions of the program as plain Lean functions, and that a call of each comes to what its function tells. -/
import Derived.Test.YtjgmkkogmfogbaaGreatQ5
import Derived.Test.YtjgmkkogmfogbaaGreatQ32
import Derived.Test.YtjgmkkogmfogbaaGreatQ35
import Derived.Test.YtjgmkkogmfogbaaGreatQ38
set_option maxHeartbeats 40000000
set_option maxRecDepth 100000
namespace Go.Proofs.YtjgmkkogmfogbaaGreat.Q
open Go.RowKit Go.Proofs.YtjgmkkogmfogbaaGreatW.PrintWords Go.Proofs.YtjgmkkogmfogbaaGreatW.PrintLast Go.Proofs.YtjgmkkogmfogbaaGreatW.PrintMore
attribute [local go_sem] min2_int min_two
set_option linter.unusedVariables false
set_option linter.unusedSimpArgs false
theorem Zq39_0 {p:Prop}(h:p:=by (with_reducible repeat (first|apply Kd.S_alloc|apply Kd.S_drewN|apply Kd.S_drew));exact(S_off (Kd.S_types al.out ae.out (by decide)) TO)):p:=h
theorem Zq39_1 {p:Prop}(h:p:=by repeat (first|exact(Kd.C_below aX.out TB)|(with_reducible refine Kd.C_alloc ?_ _)|(with_reducible refine Kd.C_drewN ?_ _)|(with_reducible refine Kd.C_drew ?_))):p:=h
theorem Zq39_2 {p:Prop}(h:p:=by repeat (first|exact(Kd.C_below aZ.out TB)|(with_reducible refine Kd.C_alloc ?_ _)|(with_reducible refine Kd.C_drewN ?_ _)|(with_reducible refine Kd.C_drew ?_))):p:=h
theorem Zq39_3 {p:Prop}(h:p:=by repeat (first|exact(Kd.C_below aY.out TB)|(with_reducible refine Kd.C_alloc ?_ _)|(with_reducible refine Kd.C_drewN ?_ _)|(with_reducible refine Kd.C_drew ?_))):p:=h
theorem Zq39_4 {p:Prop}(h:p:=by have X_:=(Kd.C_below aX.out HB.out);exact TC):p:=h
theorem Zq39_5 {p:Prop}(h:p:=by have X_:=(Kd.C_below aZ.out HB.out);exact TC):p:=h
theorem Zq39_6 {p:Prop}(h:p:=by have X_:=(Kd.C_below aY.out HB.out);exact TC):p:=h
theorem Zq39_7 {p:Prop}(h:p:=by simp only[putAll,Act.put,List.setIfInBounds_toArray,List.set_cons_zero,List.set_cons_succ]):p:=h
theorem Zq39_8 {p:Prop}(h:p:=by repeat (first|exact(Kd.C_below ch.out TB)|(with_reducible refine Kd.C_alloc ?_ _)|(with_reducible refine Kd.C_drewN ?_ _)|(with_reducible refine Kd.C_drew ?_))):p:=h
def impl_NextCommit.f (k:Nat)(l0_0:List Int)(l0_1:List Int)(a0_2:Int)(a0_3:Int)(a0_4:Int)(l0_5:List (S91))(a1_0:Int)(a1_1:Int)(a1_2:Int)(l1_3:List (S96))(a2_0:Int)(l2_1:List Int)(a3:Int):Option (List Int×List Int×Int×Int×Int×(List (S91))×Int):=if a3=1 then ((impl_Whole.f k a1_0 a1_1 a1_2 l1_3 a2_0 l2_1).bind fun t887=>(if t887=true then ((impl_StageAll.f k l0_0 l0_1 a0_2 a0_3 a0_4 l0_5 l2_1 a1_1).bind fun bt900=>(if bt900.2.2.2.2.2.2=true then (some (bt900.1,bt900.2.1,bt900.2.2.1,bt900.2.2.2.1,bt900.2.2.2.2.1,bt900.2.2.2.2.2.1,2)) else ((impl_copyDisk.f k l0_0 l0_1 a0_2 a0_3 a0_4 l0_5).bind fun bt914=>(some (bt914.1,bt914.2.1,bt914.2.2.1,bt914.2.2.2.1,bt914.2.2.2.2.1,bt914.2.2.2.2.2,a3))))) else ((impl_copyDisk.f k l0_0 l0_1 a0_2 a0_3 a0_4 l0_5).bind fun bt888=>(some (bt888.1,bt888.2.1,bt888.2.2.1,bt888.2.2.2.1,bt888.2.2.2.2.1,bt888.2.2.2.2.2,a3))))) else (if a3=2 then ((impl_Sure.f k l0_0 l0_1 a0_2 a0_3 a0_4 l0_5).bind fun bt926=>(some (bt926.1,bt926.2.1,bt926.2.2.1,bt926.2.2.2.1,bt926.2.2.2.2.1,bt926.2.2.2.2.2,3))) else (if a3=3 then ((impl_Spare.f l0_0 l0_1 a0_2 a0_3 a0_4 l0_5).bind fun t938=>((impl_PutRecord.f k l0_0 l0_1 a0_2 a0_3 a0_4 l0_5 a1_0 t938 a1_2).bind fun bt939=>(if bt939.2.2.2.2.2.2=true then (some (bt939.1,bt939.2.1,bt939.2.2.1,bt939.2.2.2.1,bt939.2.2.2.2.1,bt939.2.2.2.2.2.1,4)) else ((impl_copyDisk.f k l0_0 l0_1 a0_2 a0_3 a0_4 l0_5).bind fun bt953=>(some (bt953.1,bt953.2.1,bt953.2.2.1,bt953.2.2.2.1,bt953.2.2.2.2.1,bt953.2.2.2.2.2,a3)))))) else (if a3=4 then ((impl_Sure.f k l0_0 l0_1 a0_2 a0_3 a0_4 l0_5).bind fun bt965=>(some (bt965.1,bt965.2.1,bt965.2.2.1,bt965.2.2.2.1,bt965.2.2.2.2.1,bt965.2.2.2.2.2,5))) else ((impl_copyDisk.f k l0_0 l0_1 a0_2 a0_3 a0_4 l0_5).bind fun bt977=>(some (bt977.1,bt977.2.1,bt977.2.2.1,bt977.2.2.2.1,bt977.2.2.2.2.1,bt977.2.2.2.2.2,a3))))))
theorem impl_NextCommit.mono :∀a0 a1 a2 a3 a4 a5 a6 a7 a8 a9 a10 a11 a12 k,LeO (impl_NextCommit.f k a0 a1 a2 a3 a4 a5 a6 a7 a8 a9 a10 a11 a12) (impl_NextCommit.f (k+1) a0 a1 a2 a3 a4 a5 a6 a7 a8 a9 a10 a11 a12):=by
  intro a0 a1 a2 a3 a4 a5 a6 a7 a8 a9 a10 a11 a12 k;have m0_:=@impl_PutRecord.mono;have m1_:=@impl_StageAll.mono;have m2_:=@impl_Sure.mono;have m3_:=@impl_Whole.mono;have m4_:=@impl_copyDisk.mono;unfold impl_NextCommit.f;exact LM
def impl_NextCommit.T10 :Bool×List (List Nat×List Nat):=(true,[([],[]),([],[]),([1],[1]),([],[]),([3],[3]),([],[]),([5],[5]),([2,4,6],[2,4,6]),([0,7,4],[0,7]),([8],[8]),([9],[9]),([9],[9]),([],[]),([12,10,8,0,1,2,3,4,5,6,7,8,9,10,12],[10,12]),([11,13,0,1,2,3,4,5,6,7,8,9,10,11,12,13],[11])])
def impl_NextCommit.B10 :List Nat:=[0,0,2,0,8,0,32,126,255,511,1023,1023,0,6143,16383]
theorem impl_NextCommit.tab10 :rtab .any (opsOf Tryz.f12 10)=impl_NextCommit.T10:=by kernel_rfl
theorem impl_NextCommit.bits10 :waitsOk impl_NextCommit.T10.2 impl_NextCommit.B10=true:=by kernel_rfl
theorem Yq39_3 {p:Prop}(h:p:=by
 refine bodyPost_ret (results_ct rfl _ _ gbq4 39 #[.slice Aoq4 tq8.length coq4,.slice Aoq5 tq9.length coq5,.int .i64 b6,.int .i64 b8,.int .i64 b9,.slice Aoq6 b7.length coq6] (0,0) _ rfl (blk_put (blk_put (blk_put (blk_put (blk_put (blk_put (cs:=#[.slice none 0 0,.slice none 0 0,.int .i64 0,.int .i64 0,.int .i64 0,.slice none 0 0]) (TZ ab) 0 _ rfl) 1 _ rfl) 2 _ rfl) 3 _ rfl) 4 _ rfl) 5 _ rfl) Tryz.underlying39 rfl (by kernel_rfl)) rfl ?_;exact⟨_,_,_,TE,by (with_reducible repeat (first|apply Kd.R_alloc|apply Kd.R_drewN|apply Kd.R_drew));exact Kd.R_mono (RK1 (Kd.R_types HOq4.out ab.out (by decide))) (fun _ hk=>hk.1.1.1),by (with_reducible repeat (first|apply Kd.R_alloc|apply Kd.R_drewN|apply Kd.R_drew));exact Kd.R_mono (RK1 (Kd.R_types HOq5.out ab.out (by decide))) (fun _ hk=>hk.1.1.1),by (with_reducible repeat (first|apply Kd.S_alloc|apply Kd.S_drewN|apply Kd.S_drew));exact Kd.S_mono (SK1 (Kd.S_types HOq6.out ab.out (by decide))) (fun _ hk=>⟨hk.1.1.1.1.1,hk.1.1.1.1.2⟩),TB⟩):p:=h
theorem Yq39_2 {p:Prop}(h:p:=by
 refine bodyPost_ret (results_ct rfl _ _ gbq4 39 #[.slice aP tq1.length aQ,.slice aK tq2.length aL,.int .i64 tq3,.int .i64 tq4,.int .i64 tq5,.slice aN tq6.length aR] (0,0) _ rfl (blk_put (blk_put (blk_put (blk_put (blk_put (blk_put (cs:=#[.slice none 0 0,.slice none 0 0,.int .i64 0,.int .i64 0,.int .i64 0,.slice none 0 0]) (TZ ab) 0 _ rfl) 1 _ rfl) 2 _ rfl) 3 _ rfl) 4 _ rfl) 5 _ rfl) Tryz.underlying39 rfl (by kernel_rfl)) rfl ?_;exact⟨_,_,_,TE,by (with_reducible repeat (first|apply Kd.R_alloc|apply Kd.R_drewN|apply Kd.R_drew));exact Kd.R_mono (RK2 (Kd.R_types (Kd.R_types ah.out ae.out (by decide)) ab.out (by decide))) (fun _ hk=>hk.1.1),by (with_reducible repeat (first|apply Kd.R_alloc|apply Kd.R_drewN|apply Kd.R_drew));exact Kd.R_mono (RK2 (Kd.R_types (Kd.R_types ag.out ae.out (by decide)) ab.out (by decide))) (fun _ hk=>hk.1.1),by (with_reducible repeat (first|apply Kd.S_alloc|apply Kd.S_drewN|apply Kd.S_drew));exact Kd.S_mono (SK2 (Kd.S_types (Kd.S_types al.out ae.out (by decide)) ab.out (by decide))) (fun _ hk=>⟨hk.1.1.1,hk.1.1.2⟩),TB⟩):p:=h
theorem Yq39_1 {p:Prop}(h:p:=by
 refine pOe 8 (some 47) #[true,true,true,true,true,true,true,true,true,false,false,false,true,false,false] (fun K hK=>?_);refine gG Tryz.func38 #[.agg #[.slice av aj.length ay,.slice ax ak.length aA,.int .i64 ao,.int .i64 aq,.int .i64 ap,.slice az ai.length aw],.agg #[.int .i64 aB,.int .i64 bk,.int .i64 aC]] ?_;with_reducible refine(impl_PutRecord.calls ?side1 ?side2 ?side3 ?side4 ?side5 ?side6 Aq2.out).mono ?_
 (case side1=>exact Zq39_4);(case side2=>exact aW.out);(case side3=>exact Zq39_5);(case side4=>exact aV.out);(case side5=>exact Zq39_6);(case side6=>exact aU.out);rintro e wq8 ⟨vq1,vq2,vq3,rfl,an,am,ar,hb⟩;refine⟨_,rfl,?_⟩;replace ah:=aM (Kd.R_lower an (below_size TB));replace ag:=aM (Kd.R_lower am (below_size TB));replace al:=aM (Kd.S_lower ar (below_size TB));replace aa:=mB aa hb;replace ac:=mB ac hb;replace ad:=mB ad hb;replace ab:=mB ab hb;replace ae:=mB ae hb;replace HB:=bS HB hb;(try clear hb);(try clear an);(try clear am);(try clear ar);refine hK.out _ _ (cJ6 aa.out (cK4 ac.out)) (fun hHeld=>?_);clear hK K;refine nR ?_;refine pPe 9 (some 38) #[true,true,true,true,true,true,true,true,true,true,false,false,true,false,false] ?_;refine pPe 10 (some 48) #[true,true,true,true,true,true,true,true,true,true,true,false,true,false,false] ?_;refine pPe 11 (some 49) #[true,true,true,true,true,true,true,true,true,true,true,true,true,false,false] ?_;exact norm_ (by exact Zq39_7) (hCont (vq1,vq2,vq3,af) _ ⟨hHeld,(TRf ah),(TRf ag),(by have X_:=al.out;exact TS),TK,TK,TK,TK,TK,bu.out,bz.out,ba.out,aG.out,bi.out,aI.out,bh.out,aJ.out,bb.out,aH.out,TB⟩)):p:=h
theorem Yq39_0 {p:Prop}(h:p:=by
 refine bodyPost_ret (results_ct rfl _ _ gbq4 39 #[.slice aP tq1.length aQ,.slice aK tq2.length aL,.int .i64 tq3,.int .i64 tq4,.int .i64 tq5,.slice aN tq6.length aR] (0,0) _ rfl (blk_put (blk_put (blk_put (blk_put (blk_put (blk_put (cs:=#[.slice none 0 0,.slice none 0 0,.int .i64 0,.int .i64 0,.int .i64 0,.slice none 0 0]) (TZ ab) 0 _ rfl) 1 _ rfl) 2 _ rfl) 3 _ rfl) 4 _ rfl) 5 _ rfl) Tryz.underlying39 rfl (by kernel_rfl)) rfl ?_;exact⟨_,_,_,TE,by (with_reducible repeat (first|apply Kd.R_alloc|apply Kd.R_drewN|apply Kd.R_drew));exact Kd.R_mono (RK1 (Kd.R_types ah.out ab.out (by decide))) (fun _ hk=>hk.1),by (with_reducible repeat (first|apply Kd.R_alloc|apply Kd.R_drewN|apply Kd.R_drew));exact Kd.R_mono (RK1 (Kd.R_types ag.out ab.out (by decide))) (fun _ hk=>hk.1),by (with_reducible repeat (first|apply Kd.S_alloc|apply Kd.S_drewN|apply Kd.S_drew));exact Kd.S_mono (SK1 (Kd.S_types al.out ab.out (by decide))) (fun _ hk=>⟨hk.1.1,hk.1.2⟩),TB⟩):p:=h
theorem impl_NextCommit.calls {k:Nat}{av:Option Addr}{ay:Nat}{aj:List Int}{ax:Option Addr}{aA:Nat}{ak:List Int}{ao:Int}{aq:Int}{ap:Int}{az:Option Addr}{aw:Nat}{ai:List (S91)}{aB:Int}{aE:Int}{aC:Int}{bd:Option Addr}{bf:Nat}{aF:List (S96)}{bj:Int}{be:Option Addr}{bc:Nat}{aD:List Int}{a3:Int}{r1:List Int}{r2:List Int}{r3:Int}{r4:Int}{r5:Int}{r6:List (S91)}{r7:Int}{w:World}(cm:Kd.C (Kd.int .u8) w av aj.length aj)(cl:aj.length≤ay)(cp:Kd.C (Kd.int .u8) w ax ak.length ak)(co:ak.length≤aA)(cn:Kd.C k91 w az ai.length ai)(cq:ai.length≤aw)(cr:Kd.C k96 w bd aF.length aF)(ck:aF.length≤bf)(ci:Kd.C (Kd.int .u8) w be aD.length aD)(cj:aD.length≤bc)(h:impl_NextCommit.f k aj ak ao aq ap ai aB aE aC aF bj aD a3=some (r1,r2,r3,r4,r5,r6,r7)):
  Calls Tryz.prog 12 #[.agg #[.slice av aj.length ay,.slice ax ak.length aA,.int .i64 ao,.int .i64 aq,.int .i64 ap,.slice az ai.length aw],.agg #[.int .i64 aB,.int .i64 aE,.int .i64 aC,.slice bd aF.length bf],.agg #[.int .i64 bj,.slice be aD.length bc],.int .i64 a3] w fun e w'=>∃v0_ v1_ v5_:Value,e=.returned (.tuple #[.agg #[v0_,v1_,.int .i64 r3,.int .i64 r4,.int .i64 r5,v5_],.int .i64 r7])∧Kd.R (Kd.int .u8) 5 w' w.heap.size (fun k_=>some k_≠(v1_:Value).ownBlock) v0_ r1∧Kd.R (Kd.int .u8) 5 w' w.heap.size (fun k_=>some k_≠(v0_:Value).ownBlock) v1_ r2∧Kd.S k91 91 w' w.heap.size (fun k_=>some k_≠(v0_:Value).ownBlock∧some k_≠(v1_:Value).ownBlock) v5_ r6∧Below w.heap.size w w':=by
 have huq1:=Tryz.underlying39;have huq2:=Tryz.underlying45;have huq3:=Tryz.underlying47;have huq4:=Tryz.underlying36;have aX:=aM cm;have aW:=aM cl;clear cm cl;have aZ:=aM cp;have aV:=aM co;clear cp co;have aY:=aM cn;have aU:=aM cq;clear cn cq;have HRq4:=aM cr;have HCq4:=aM ck;clear cr ck;have ch:=aM ci;have cg:=aM cj;clear ci cj;have HB:=aM (Below.refl w.heap.size w);have H:=h;clear h;unfold impl_NextCommit.f at H
 by_cases cq1:a3=1
 ·rw[if_pos cq1] at H;have cq2:(a3==1)=true:=beq_iff_eq.mpr cq1;have cq3:(a3 != 1)=false:=bne_eq_false_iff_eq.mpr cq1;clear cq1;replace H:=bE H;obtain⟨t887,Aq1,H⟩:=H;go_enter Tryz.func12,Tryz.ntmps12;go_wp2_with (first|(refine g_D 4 ?_;refine gBx 4 #[.slice av aj.length ay,.slice ax ak.length aA,.int .i64 ao,.int .i64 aq,.int .i64 ap,.slice az ai.length aw] 39 ?_;intro au hg wq1 hbox hb;have aa:=aM (hbox);have GWq1:=gW HB hg;have GEq1:=gW HB hg;replace HB:=bS HB hb;clear hb hbox hg)|(refine g_D 5 ?_;refine gBx 5 #[.int .i64 aB,.int .i64 aE,.int .i64 aC,.slice bd aF.length bf] 45 ?_;intro gbq2 hg wq2 hbox hb;have ac:=aM (hbox);have GWq2:=gW HB hg;have GEq2:=gW HB hg;obtain⟨NBq1,NBq2⟩:=nB aa hg;replace aa:=mB aa hb;replace HB:=bS HB hb;clear hb hbox hg)|(refine g_D 6 ?_;refine gBx 6 #[.int .i64 bj,.slice be aD.length bc] 47 ?_;intro gbq3 hg wq3 hbox hb;have ad:=aM (hbox);have GWq3:=gW HB hg;have GEq3:=gW HB hg;obtain⟨NBq3,NBq4⟩:=nB aa hg;obtain⟨NBq5,NBq6⟩:=nB ac hg;replace aa:=mB aa hb;replace ac:=mB ac hb;replace HB:=bS HB hb;clear hb hbox hg)|(refine g_D 8 ?_;refine gBx 8 #[.slice none 0 0,.slice none 0 0,.int .i64 0,.int .i64 0,.int .i64 0,.slice none 0 0] 39 ?_;intro gbq4 hg wq4 hbox hb;have ab:=aM (hbox);have GWq4:=gW HB hg;have GEq4:=gW HB hg;obtain⟨NBq7,NBq8⟩:=nB aa hg;obtain⟨NBq9,NBq10⟩:=nB ac hg;obtain⟨NBq11,NBq12⟩:=nB ad hg;replace aa:=mB aa hb;replace ac:=mB ac hb;replace ad:=mB ad hb;replace HB:=bS HB hb;clear hb hbox hg;obtain⟨b5,bM⟩:=oB NBq2;obtain⟨bW,bU⟩:=oB NBq5;obtain⟨bV,bX⟩:=oB NBq9;obtain⟨bJ,b2,bO,bR⟩:=cz4 ac.out;obtain⟨bQ,b4,b3,bP⟩:=fz4 ac.out;obtain⟨bZ,bK⟩:=oB NBq4;obtain⟨b1,bN⟩:=oB NBq11;obtain⟨bY,bL⟩:=cz2 ad.out;obtain⟨b0,bT⟩:=fz2 ad.out)|(refine g_C 35 ?_;refine gL (some 19) Tryz.func35 #[.agg #[.int .i64 aB,.int .i64 aE,.int .i64 aC,.slice bd aF.length bf],.agg #[.int .i64 bj,.slice be aD.length bc]] ?_;(with_reducible refine(impl_Whole.calls ?side1 ?side2 ?side3 ?side4 Aq1.out).mono ?_);(case side1=>have X_:=(Kd.C_below HRq4.out HB.out);exact TC);(case side2=>exact HCq4.out);(case side3=>have X_:=(Kd.C_below ch.out HB.out);exact TC);(case side4=>exact cg.out);rintro e wq5 ⟨rfl,hb⟩;refine⟨_,rfl,?_⟩;replace aa:=mB aa hb;replace ac:=mB ac hb;replace ad:=mB ad hb;replace ab:=mB ab hb;replace HB:=bS HB hb;clear hb)|(refine g_D 20 ?_;generalize hG_:wpList _ _ _ _ _ _=G_))
  subst hG_
  by_cases cq4:t887=true
  ·subst cq4;replace H:=ifT H;replace H:=bE H;obtain⟨⟨tq1,tq2,tq3,tq4,tq5,tq6,tq7⟩,Aq2,H⟩:=H;dsimp only at H;obtain⟨cd,ca⟩:=oB NBq1;obtain⟨ce,cb⟩:=oB NBq3;obtain⟨hnbq8,hncq8⟩:=oB NBq7;obtain⟨bB,bI,bH,bp,bo,bl⟩:=cz6 aa.out;obtain⟨bG,bF,bA,bm,bq,bn⟩:=fz6 aa.out;obtain⟨hnbq9,hncq9⟩:=oB NBq6;obtain⟨cA,cw⟩:=oB NBq11;obtain⟨cB,cu⟩:=cz2 ad.out;obtain⟨ct,cG⟩:=fz2 ad.out;obtain⟨hnbq11,hncq11⟩:=oB NBq9;obtain⟨cF,cy,cv,cE⟩:=cz4 ac.out;obtain⟨cC,cD,cx,cz⟩:=fz4 ac.out
   by_cases cq5:tq7=true
   ·subst cq5;replace H:=ifT H;simp only[Option.some.injEq,Prod.mk.injEq] at H;obtain⟨rfl,rfl,rfl,rfl,rfl,rfl,rfl⟩:=H;go_wp2_with (first|(refine g_C 36 ?_;refine gL (some 27) Tryz.func36 #[.agg #[.slice av aj.length ay,.slice ax ak.length aA,.int .i64 ao,.int .i64 aq,.int .i64 ap,.slice az ai.length aw],.slice be aD.length bc,.int .i64 aE] ?_;(with_reducible refine(impl_StageAll.calls ?side1 ?side2 ?side3 ?side4 ?side5 ?side6 ?side7 ?side8 Aq2.out).mono ?_);(case side1=>exact Zq39_1);(case side2=>exact aW.out);(case side3=>exact Zq39_2);(case side4=>exact aV.out);(case side5=>exact Zq39_3);(case side6=>exact aU.out);(case side7=>exact Zq39_8);(case side8=>exact cg.out);rintro e wq6 ⟨vq1,vq2,vq3,rfl,an,am,ar,hb⟩;refine⟨_,rfl,?_⟩;have ah:=aM (Kd.R_lower an (below_size TB));have ag:=aM (Kd.R_lower am (below_size TB));have al:=aM (Kd.S_lower ar (below_size TB));replace aa:=mB aa hb;replace ac:=mB ac hb;replace ad:=mB ad hb;replace ab:=mB ab hb;replace HB:=bS HB hb;clear an am ar hb)|(refine g_D 10 ?_;refine gBx 10 #[.slice none 0 0,.slice none 0 0,.int .i64 0,.int .i64 0,.int .i64 0,.slice none 0 0] 39 ?_;intro af hg wq7 hbox hb;have ae:=aM (hbox);have bu:=gW HB hg;have bz:=gW HB hg;obtain⟨ba,aG⟩:=nB aa hg;obtain⟨bi,aI⟩:=nB ac hg;obtain⟨bh,aJ⟩:=nB ad hg;obtain⟨bb,aH⟩:=nB ab hg;replace ah:=mR ah hb;replace ag:=mR ag hb;replace al:=aM (Kd.S_below (by have X_:=al.out;exact TS) hb);replace aa:=mB aa hb;replace ac:=mB ac hb;replace ad:=mB ad hb;replace ab:=mB ab hb;replace HB:=bS HB hb;clear hb hbox hg;obtain⟨aP,aQ,aT⟩:=Kd.R_slice ah.out;subst aT;obtain⟨hnbq12,hncq12⟩:=oB aG;obtain⟨hnbq13,hncq13⟩:=oB aI;obtain⟨hnbq14,hncq14⟩:=oB aJ;obtain⟨hnbq15,hncq15⟩:=oB aH;obtain⟨hczq19,hczq20,hczq21,hczq22,hczq23,hczq24⟩:=cz6 ae.out;obtain⟨hfzq19,hfzq20,hfzq21,hfzq22,hfzq23,hfzq24⟩:=fz6 ae.out;obtain⟨aK,aL,aO⟩:=Kd.R_slice ag.out;subst aO;obtain⟨aN,aR,aS⟩:=Kd.S_slice al.out;subst aS;obtain⟨hczq25,hczq26,hczq27,hczq28,hczq29,hczq30⟩:=cz6 ab.out;obtain⟨hfzq25,hfzq26,hfzq27,hfzq28,hfzq29,hfzq30⟩:=fz6 ab.out))
    exact Yq39_2
   ·replace cq5:=b_F cq5;subst cq5;replace H:=ifF H;replace H:=bE H;obtain⟨⟨tq8,tq9,b6,b8,b9,b7⟩,Aq3,H⟩:=H;dsimp only at H;simp only[Option.some.injEq,Prod.mk.injEq] at H;obtain⟨rfl,rfl,rfl,rfl,rfl,rfl,rfl⟩:=H;go_wp2_with (first|(refine g_C 36 ?_;refine gL (some 27) Tryz.func36 #[.agg #[.slice av aj.length ay,.slice ax ak.length aA,.int .i64 ao,.int .i64 aq,.int .i64 ap,.slice az ai.length aw],.slice be aD.length bc,.int .i64 aE] ?_;(with_reducible refine(impl_StageAll.calls ?side1 ?side2 ?side3 ?side4 ?side5 ?side6 ?side7 ?side8 Aq2.out).mono ?_);(case side1=>exact Zq39_1);(case side2=>exact aW.out);(case side3=>exact Zq39_2);(case side4=>exact aV.out);(case side5=>exact Zq39_3);(case side6=>exact aU.out);(case side7=>exact Zq39_8);(case side8=>exact cg.out);rintro e wq6 ⟨vq1,vq2,vq3,rfl,an,am,ar,hb⟩;refine⟨_,rfl,?_⟩;have ah:=aM (Kd.R_lower an (below_size TB));have ag:=aM (Kd.R_lower am (below_size TB));have al:=aM (Kd.S_lower ar (below_size TB));replace aa:=mB aa hb;replace ac:=mB ac hb;replace ad:=mB ad hb;replace ab:=mB ab hb;replace HB:=bS HB hb;clear an am ar hb)|(refine g_D 10 ?_;refine gBx 10 #[.slice none 0 0,.slice none 0 0,.int .i64 0,.int .i64 0,.int .i64 0,.slice none 0 0] 39 ?_;intro af hg wq7 hbox hb;have ae:=aM (hbox);have bu:=gW HB hg;have bz:=gW HB hg;obtain⟨ba,aG⟩:=nB aa hg;obtain⟨bi,aI⟩:=nB ac hg;obtain⟨bh,aJ⟩:=nB ad hg;obtain⟨bb,aH⟩:=nB ab hg;replace ah:=mR ah hb;replace ag:=mR ag hb;replace al:=aM (Kd.S_below (by have X_:=al.out;exact TS) hb);replace aa:=mB aa hb;replace ac:=mB ac hb;replace ad:=mB ad hb;replace ab:=mB ab hb;replace HB:=bS HB hb;clear hb hbox hg;obtain⟨aP,aQ,aT⟩:=Kd.R_slice ah.out;subst aT;obtain⟨hnbq12,hncq12⟩:=oB aG;obtain⟨hnbq13,hncq13⟩:=oB aI;obtain⟨hnbq14,hncq14⟩:=oB aJ;obtain⟨hnbq15,hncq15⟩:=oB aH;obtain⟨hczq19,hczq20,hczq21,hczq22,hczq23,hczq24⟩:=cz6 ae.out;obtain⟨hfzq19,hfzq20,hfzq21,hfzq22,hfzq23,hfzq24⟩:=fz6 ae.out;obtain⟨aK,aL,aO⟩:=Kd.R_slice ag.out;subst aO;obtain⟨aN,aR,aS⟩:=Kd.S_slice al.out;subst aS;obtain⟨hczq25,hczq26,hczq27,hczq28,hczq29,hczq30⟩:=cz6 aa.out;obtain⟨hfzq25,hfzq26,hfzq27,hfzq28,hfzq29,hfzq30⟩:=fz6 aa.out)|(refine g_C 40 ?_;refine gL (some 57) Tryz.func40 #[.agg #[.slice av aj.length ay,.slice ax ak.length aA,.int .i64 ao,.int .i64 aq,.int .i64 ap,.slice az ai.length aw]] ?_;(with_reducible refine(impl_copyDisk.calls ?side1 ?side2 ?side3 ?side4 ?side5 ?side6 Aq3.out).mono ?_);(case side1=>exact Kd.C_below aX.out TB);(case side2=>exact aW.out);(case side3=>exact Kd.C_below aZ.out TB);(case side4=>exact aV.out);(case side5=>exact Kd.C_below aY.out TB);(case side6=>exact aU.out);rintro e wq8 ⟨vq4,vq5,vq6,rfl,an,am,ar,hb⟩;refine⟨_,rfl,?_⟩;have HOq4:=aM (Kd.R_lower (Kd.R_new' (Kd.R_new' an (Kd.R_lt (TY ah ae))) (Kd.R_lt (TY ag ae))) (below_size TB));have HOq5:=aM (Kd.R_lower (Kd.R_new' (Kd.R_new' am (Kd.R_lt (TY ah ae))) (Kd.R_lt (TY ag ae))) (below_size TB));have HOq6:=aM (Kd.S_lower (Kd.S_new' (Kd.S_new' (Kd.S_new' ar (Kd.R_lt (TY ah ae))) (Kd.R_lt (TY ag ae))) (Kd.S_lt (by exact Zq39_0))) (below_size TB));replace ah:=aM (Kd.R_mono (Kd.R_told (Kd.R_told (Kd.R_old (TY ah ae) hb) (Kd.R_base an)) (Kd.R_base am)) (fun _ h_=>h_.1));replace ag:=aM (Kd.R_mono (Kd.R_told (Kd.R_told (Kd.R_old (TY ag ae) hb) (Kd.R_base an)) (Kd.R_base am)) (fun _ h_=>h_.1));replace al:=aM (Kd.S_mono (Kd.S_told (Kd.S_told (Kd.S_told (Kd.S_old (by exact Zq39_0) hb) (Kd.R_base an)) (Kd.R_base am)) (Kd.S_base ar)) (fun _ h_=>h_.1));replace aa:=mB aa hb;replace ac:=mB ac hb;replace ad:=mB ad hb;replace ab:=mB ab hb;replace ae:=aM (blk_below (g:=af) (o:=.cells #[.slice aP tq1.length aQ,.slice aK tq2.length aL,.int .i64 tq3,.int .i64 tq4,.int .i64 tq5,.slice aN tq6.length aR] 39 (0,0)) (blk_put (blk_put (blk_put (blk_put (blk_put (blk_put (cs:=#[.slice none 0 0,.slice none 0 0,.int .i64 0,.int .i64 0,.int .i64 0,.slice none 0 0]) (TZ ae) 0 _ rfl) 1 _ rfl) 2 _ rfl) 3 _ rfl) 4 _ rfl) 5 _ rfl) hb);replace HB:=bS HB hb;clear an am ar hb;obtain⟨Aoq4,coq4,eoq4⟩:=Kd.R_slice HOq4.out;subst eoq4;obtain⟨hczq31,hczq32,hczq33,hczq34,hczq35,hczq36⟩:=cz6 ab.out;obtain⟨hfzq31,hfzq32,hfzq33,hfzq34,hfzq35,hfzq36⟩:=fz6 ab.out;obtain⟨Aoq5,coq5,eoq5⟩:=Kd.R_slice HOq5.out;subst eoq5;obtain⟨Aoq6,coq6,eoq6⟩:=Kd.S_slice HOq6.out;subst eoq6))
    exact Yq39_3
  ·replace cq4:=b_F cq4;subst cq4;replace H:=ifF H;replace H:=bE H;obtain⟨⟨tq1,tq2,tq3,tq4,tq5,tq6⟩,Aq2,H⟩:=H;dsimp only at H;simp only[Option.some.injEq,Prod.mk.injEq] at H;obtain⟨rfl,rfl,rfl,rfl,rfl,rfl,rfl⟩:=H;obtain⟨cd,ca⟩:=oB NBq1;obtain⟨ce,cb⟩:=oB NBq3;obtain⟨hnbq8,hncq8⟩:=oB NBq7;obtain⟨bB,bI,bH,bp,bo,bl⟩:=cz6 aa.out;obtain⟨bG,bF,bA,bm,bq,bn⟩:=fz6 aa.out;go_wp2_with (first|(refine g_C 40 ?_;refine gL (some 57) Tryz.func40 #[.agg #[.slice av aj.length ay,.slice ax ak.length aA,.int .i64 ao,.int .i64 aq,.int .i64 ap,.slice az ai.length aw]] ?_;(with_reducible refine(impl_copyDisk.calls ?side1 ?side2 ?side3 ?side4 ?side5 ?side6 Aq2.out).mono ?_);(case side1=>exact Zq39_1);(case side2=>exact aW.out);(case side3=>exact Zq39_2);(case side4=>exact aV.out);(case side5=>exact Zq39_3);(case side6=>exact aU.out);rintro e wq6 ⟨vq1,vq2,vq3,rfl,an,am,ar,hb⟩;refine⟨_,rfl,?_⟩;have ah:=aM (Kd.R_lower an (below_size TB));have ag:=aM (Kd.R_lower am (below_size TB));have al:=aM (Kd.S_lower ar (below_size TB));replace aa:=mB aa hb;replace ac:=mB ac hb;replace ad:=mB ad hb;replace ab:=mB ab hb;replace HB:=bS HB hb;clear an am ar hb;obtain⟨aP,aQ,aT⟩:=Kd.R_slice ah.out;subst aT;obtain⟨hnbq9,hncq9⟩:=oB NBq10;obtain⟨cA,cw⟩:=oB NBq12;obtain⟨cB,cu,cF,cy,cv,cE⟩:=cz6 ab.out;obtain⟨ct,cG,cC,cD,cx,cz⟩:=fz6 ab.out;obtain⟨aK,aL,aO⟩:=Kd.R_slice ag.out;subst aO;obtain⟨aN,aR,aS⟩:=Kd.S_slice al.out;subst aS))
   exact Yq39_0
 ·rw[if_neg cq1] at H;have cq2:(a3==1)=false:=beq_eq_false_iff_ne.mpr cq1;have cq3:(a3 != 1)=true:=bne_iff_ne.mpr cq1
  by_cases cq4:a3=2
  ·rw[if_pos cq4] at H;have cq5:(a3==2)=true:=beq_iff_eq.mpr cq4;have cq6:(a3 != 2)=false:=bne_eq_false_iff_eq.mpr cq4;clear cq4;replace H:=bE H;obtain⟨⟨tq1,tq2,tq3,tq4,tq5,tq6⟩,Aq1,H⟩:=H;dsimp only at H;simp only[Option.some.injEq,Prod.mk.injEq] at H;obtain⟨rfl,rfl,rfl,rfl,rfl,rfl,rfl⟩:=H;go_enter Tryz.func12,Tryz.ntmps12;go_wp2_with (first|(refine g_D 4 ?_;refine gBx 4 #[.slice av aj.length ay,.slice ax ak.length aA,.int .i64 ao,.int .i64 aq,.int .i64 ap,.slice az ai.length aw] 39 ?_;intro au hg wq1 hbox hb;have aa:=aM (hbox);have GWq1:=gW HB hg;have GEq1:=gW HB hg;replace HB:=bS HB hb;clear hb hbox hg)|(refine g_D 5 ?_;refine gBx 5 #[.int .i64 aB,.int .i64 aE,.int .i64 aC,.slice bd aF.length bf] 45 ?_;intro gbq2 hg wq2 hbox hb;have ac:=aM (hbox);have GWq2:=gW HB hg;have GEq2:=gW HB hg;obtain⟨NBq1,NBq2⟩:=nB aa hg;replace aa:=mB aa hb;replace HB:=bS HB hb;clear hb hbox hg)|(refine g_D 6 ?_;refine gBx 6 #[.int .i64 bj,.slice be aD.length bc] 47 ?_;intro gbq3 hg wq3 hbox hb;have ad:=aM (hbox);have GWq3:=gW HB hg;have GEq3:=gW HB hg;obtain⟨NBq3,NBq4⟩:=nB aa hg;obtain⟨NBq5,NBq6⟩:=nB ac hg;replace aa:=mB aa hb;replace ac:=mB ac hb;replace HB:=bS HB hb;clear hb hbox hg)|(refine g_D 8 ?_;refine gBx 8 #[.slice none 0 0,.slice none 0 0,.int .i64 0,.int .i64 0,.int .i64 0,.slice none 0 0] 39 ?_;intro gbq4 hg wq4 hbox hb;have ab:=aM (hbox);have GWq4:=gW HB hg;have GEq4:=gW HB hg;obtain⟨NBq7,NBq8⟩:=nB aa hg;obtain⟨NBq9,NBq10⟩:=nB ac hg;obtain⟨NBq11,NBq12⟩:=nB ad hg;replace aa:=mB aa hb;replace ac:=mB ac hb;replace ad:=mB ad hb;replace HB:=bS HB hb;clear hb hbox hg;obtain⟨b5,bM⟩:=oB NBq1;obtain⟨bW,bU⟩:=oB NBq3;obtain⟨bV,bX⟩:=oB NBq7;obtain⟨bJ,b2,bO,bR,bY,bL⟩:=cz6 aa.out;obtain⟨bQ,b4,b3,bP,b0,bT⟩:=fz6 aa.out)|(refine g_C 37 ?_;refine gL (some 35) Tryz.func37 #[.agg #[.slice av aj.length ay,.slice ax ak.length aA,.int .i64 ao,.int .i64 aq,.int .i64 ap,.slice az ai.length aw]] ?_;(with_reducible refine(impl_Sure.calls ?side1 ?side2 ?side3 ?side4 ?side5 ?side6 Aq1.out).mono ?_);(case side1=>exact Zq39_4);(case side2=>exact aW.out);(case side3=>exact Zq39_5);(case side4=>exact aV.out);(case side5=>exact Zq39_6);(case side6=>exact aU.out);rintro e wq5 ⟨vq1,vq2,vq3,rfl,an,am,ar,hb⟩;refine⟨_,rfl,?_⟩;have ah:=aM (Kd.R_lower an (below_size TB));have ag:=aM (Kd.R_lower am (below_size TB));have al:=aM (Kd.S_lower ar (below_size TB));replace aa:=mB aa hb;replace ac:=mB ac hb;replace ad:=mB ad hb;replace ab:=mB ab hb;replace HB:=bS HB hb;clear an am ar hb;obtain⟨aP,aQ,aT⟩:=Kd.R_slice ah.out;subst aT;obtain⟨bZ,bK⟩:=oB NBq10;obtain⟨b1,bN⟩:=oB NBq12;obtain⟨bB,bI,bH,bp,bo,bl⟩:=cz6 ab.out;obtain⟨bG,bF,bA,bm,bq,bn⟩:=fz6 ab.out;obtain⟨aK,aL,aO⟩:=Kd.R_slice ag.out;subst aO;obtain⟨aN,aR,aS⟩:=Kd.S_slice al.out;subst aS))
   exact Yq39_0
  ·rw[if_neg cq4] at H;have cq5:(a3==2)=false:=beq_eq_false_iff_ne.mpr cq4;have cq6:(a3 != 2)=true:=bne_iff_ne.mpr cq4
   by_cases cq7:a3=3
   ·rw[if_pos cq7] at H;have cq8:(a3==3)=true:=beq_iff_eq.mpr cq7;have cq9:(a3 != 3)=false:=bne_eq_false_iff_eq.mpr cq7;clear cq7;replace H:=bE H;obtain⟨bk,Aq1,H⟩:=H;replace H:=bE H;obtain⟨⟨tq1,tq2,tq3,tq4,tq5,tq6,tq7⟩,Aq2,H⟩:=H;dsimp only at H;go_enter Tryz.func12,Tryz.ntmps12;try go_wp2_with (first|(refine g_D 4 ?_;refine gBx 4 #[.slice av aj.length ay,.slice ax ak.length aA,.int .i64 ao,.int .i64 aq,.int .i64 ap,.slice az ai.length aw] 39 ?_;intro au hg wq1 hbox hb;have aa:=aM (hbox);have GWq1:=gW HB hg;have GEq1:=gW HB hg;replace HB:=bS HB hb;clear hb hbox hg)|(refine g_D 5 ?_;refine gBx 5 #[.int .i64 aB,.int .i64 aE,.int .i64 aC,.slice bd aF.length bf] 45 ?_;intro gbq2 hg wq2 hbox hb;have ac:=aM (hbox);have GWq2:=gW HB hg;have GEq2:=gW HB hg;obtain⟨NBq1,NBq2⟩:=nB aa hg;replace aa:=mB aa hb;replace HB:=bS HB hb;clear hb hbox hg)|(refine g_D 6 ?_;refine gBx 6 #[.int .i64 bj,.slice be aD.length bc] 47 ?_;intro gbq3 hg wq3 hbox hb;have ad:=aM (hbox);have GWq3:=gW HB hg;have GEq3:=gW HB hg;obtain⟨NBq3,NBq4⟩:=nB aa hg;obtain⟨NBq5,NBq6⟩:=nB ac hg;replace aa:=mB aa hb;replace ac:=mB ac hb;replace HB:=bS HB hb;clear hb hbox hg)|(refine g_D 8 ?_;refine gBx 8 #[.slice none 0 0,.slice none 0 0,.int .i64 0,.int .i64 0,.int .i64 0,.slice none 0 0] 39 ?_;intro gbq4 hg wq4 hbox hb;have ab:=aM (hbox);have GWq4:=gW HB hg;have GEq4:=gW HB hg;obtain⟨NBq7,NBq8⟩:=nB aa hg;obtain⟨NBq9,NBq10⟩:=nB ac hg;obtain⟨NBq11,NBq12⟩:=nB ad hg;replace aa:=mB aa hb;replace ac:=mB ac hb;replace ad:=mB ad hb;replace HB:=bS HB hb;clear hb hbox hg))
    replace aa:=bD aa;replace ac:=bD ac;replace ad:=bD ad;replace ab:=bD ab;replace HB:=aM (below_drew1 HB.out);refine st_ (n:=15) (ds:=[]) #[false,false,false,false,false,false,false,false,false,false,false,false,false,false,false] (hJ6 aa.out (hK4 ac.out)) (by kernel_rfl) rfl rfl (fun hHeld=>?_);refine with_tabW impl_NextCommit.tab10 impl_NextCommit.bits10 (fun HT_ HW_=>?_);generalize wq4.drew=wq5 at aa ac ad ab HB hHeld ⊢;refine pPe 1 (some 40) #[false,true,false,false,false,false,false,false,false,false,false,false,false,false,false] ?_;refine pPe 5 (some 44) #[false,true,false,false,false,true,false,false,false,false,false,false,false,false,false] ?_;refine pTe 0 (some 39) #[true,true,false,false,false,true,false,false,false,false,false,false,false,false,false] ?_;refine pTe 2 (some 41) #[true,true,true,false,false,true,false,false,false,false,false,false,false,false,false] ?_;refine pTe 3 (some 42) #[true,true,true,true,false,true,false,false,false,false,false,false,false,false,false] ?_;refine pTe 6 (some 45) #[true,true,true,true,false,true,true,false,false,false,false,false,false,false,false] ?_;refine join_ (σ:=Value×Value×Value×Nat) 2 #[true,true,true,true,true,true,true,true,true,true,true,true,true,false,false] (fun s_=>[(43,.int .i64 bk),(47,.tuple #[.agg #[s_.1,s_.2.1,.int .i64 tq3,.int .i64 tq4,.int .i64 tq5,s_.2.2.1],.bool tq7]),(12,.pointer (some ⟨s_.2.2.2,0,none⟩)),(46,.agg #[.int .i64 aB,.int .i64 bk,.int .i64 aC]),(38,.tuple #[.agg #[s_.1,s_.2.1,.int .i64 tq3,.int .i64 tq4,.int .i64 tq5,s_.2.2.1],.bool tq7]),(48,.agg #[s_.1,s_.2.1,.int .i64 tq3,.int .i64 tq4,.int .i64 tq5,s_.2.2.1]),(49,.bool tq7)]) (fun s_ w'=>(w'.cell? ⟨au,0,none⟩=some (.slice av aj.length ay)∧w'.cell? ⟨au,1,none⟩=some (.slice ax ak.length aA)∧w'.cell? ⟨au,2,none⟩=some (.int .i64 ao)∧w'.cell? ⟨au,3,none⟩=some (.int .i64 aq)∧w'.cell? ⟨au,4,none⟩=some (.int .i64 ap)∧w'.cell? ⟨au,5,none⟩=some (.slice az ai.length aw)∧w'.cell? ⟨gbq2,0,none⟩=some (.int .i64 aB)∧w'.cell? ⟨gbq2,1,none⟩=some (.int .i64 aE)∧w'.cell? ⟨gbq2,2,none⟩=some (.int .i64 aC)∧w'.cell? ⟨gbq2,3,none⟩=some (.slice bd aF.length bf))∧(Kd.R (Kd.int .u8) 5 w' w.heap.size (fun k_=>some k_≠(s_.2.1:Value).ownBlock) s_.1 tq1)∧(Kd.R (Kd.int .u8) 5 w' w.heap.size (fun k_=>some k_≠(s_.1:Value).ownBlock) s_.2.1 tq2)∧(Kd.S k91 91 w' w.heap.size (fun k_=>some k_≠(s_.1:Value).ownBlock∧some k_≠(s_.2.1:Value).ownBlock) s_.2.2.1 tq6)∧(w'.heap[au]?=some (.cells #[.slice av aj.length ay,.slice ax ak.length aA,.int .i64 ao,.int .i64 aq,.int .i64 ap,.slice az ai.length aw] 39 (0,0)))∧(w'.heap[gbq2]?=some (.cells #[.int .i64 aB,.int .i64 aE,.int .i64 aC,.slice bd aF.length bf] 45 (0,0)))∧(w'.heap[gbq3]?=some (.cells #[.int .i64 bj,.slice be aD.length bc] 47 (0,0)))∧(w'.heap[gbq4]?=some (.cells #[.slice none 0 0,.slice none 0 0,.int .i64 0,.int .i64 0,.int .i64 0,.slice none 0 0] 39 (0,0)))∧(w'.heap[s_.2.2.2]?=some (.cells #[.slice none 0 0,.slice none 0 0,.int .i64 0,.int .i64 0,.int .i64 0,.slice none 0 0] 39 (0,0)))∧(w.heap.size≤s_.2.2.2)∧(w.heap.size≤s_.2.2.2)∧(au≠s_.2.2.2)∧(s_.2.2.2≠au)∧(gbq2≠s_.2.2.2)∧(s_.2.2.2≠gbq2)∧(gbq3≠s_.2.2.2)∧(s_.2.2.2≠gbq3)∧(gbq4≠s_.2.2.2)∧(s_.2.2.2≠gbq4)∧(Below w.heap.size w w')) ?_ ?_;rotate_left
    ·intro hCont;refine two_ (i:=4) (j:=12) (Ni:=some 43) (Nj:=some 12) #[true,true,true,true,true,true,true,false,false,false,false,false,false,false,false] #[true,true,true,true,false,true,true,false,false,false,false,false,true,false,false] rfl rfl rfl rfl (two_of HT_.out (by kernel_rfl)) (by decide) (by decide) (fun K hK=>?_) (fun K hK=>?_)
     ·skip
      refine gG Tryz.func39 #[.agg #[.slice av aj.length ay,.slice ax ak.length aA,.int .i64 ao,.int .i64 aq,.int .i64 ap,.slice az ai.length aw]] ?_;with_reducible refine(impl_Spare.calls ?side1 ?side2 ?side3 ?side4 ?side5 ?side6 Aq1.out).mono ?_
      (case side1=>exact Zq39_4);(case side2=>exact aW.out);(case side3=>exact Zq39_5);(case side4=>exact aV.out);(case side5=>exact Zq39_6);(case side6=>exact aU.out);rintro e wq6 ⟨rfl,hb⟩;refine⟨_,rfl,?_⟩;replace aa:=mB aa hb;replace ac:=mB ac hb;replace ad:=mB ad hb;replace ab:=mB ab hb;replace HB:=bS HB hb;(try clear hb);refine hK.out _ _ (cJ6 aa.out (cK4 ac.out)) (fun hHeld=>?_);clear hK K;refine nR ?_;refine pPe 7 (some 46) #[true,true,true,true,true,true,true,true,false,false,false,false,false,false,false] ?_;refine two_ (i:=8) (j:=12) (Ni:=some 47) (Nj:=some 12) #[true,true,true,true,true,true,true,true,true,false,false,false,false,false,false] #[true,true,true,true,true,true,true,true,false,false,false,false,true,false,false] rfl rfl rfl rfl (two_of HT_.out (by kernel_rfl)) (by decide) (by decide) (fun K hK=>?_) (fun K hK=>?_)
      ·skip
       refine gG Tryz.func38 #[.agg #[.slice av aj.length ay,.slice ax ak.length aA,.int .i64 ao,.int .i64 aq,.int .i64 ap,.slice az ai.length aw],.agg #[.int .i64 aB,.int .i64 bk,.int .i64 aC]] ?_;with_reducible refine(impl_PutRecord.calls ?side1 ?side2 ?side3 ?side4 ?side5 ?side6 Aq2.out).mono ?_
       (case side1=>exact Zq39_4);(case side2=>exact aW.out);(case side3=>exact Zq39_5);(case side4=>exact aV.out);(case side5=>exact Zq39_6);(case side6=>exact aU.out);rintro e wq7 ⟨vq1,vq2,vq3,rfl,an,am,ar,hb⟩;refine⟨_,rfl,?_⟩;replace ah:=aM (Kd.R_lower an (below_size TB));replace ag:=aM (Kd.R_lower am (below_size TB));replace al:=aM (Kd.S_lower ar (below_size TB));replace aa:=mB aa hb;replace ac:=mB ac hb;replace ad:=mB ad hb;replace ab:=mB ab hb;replace HB:=bS HB hb;(try clear hb);(try clear an);(try clear am);(try clear ar);refine hK.out _ _ (cJ6 aa.out (cK4 ac.out)) (fun hHeld=>?_);clear hK K;refine nR ?_;refine pPe 9 (some 38) #[true,true,true,true,true,true,true,true,true,true,false,false,false,false,false] ?_;refine pPe 10 (some 48) #[true,true,true,true,true,true,true,true,true,true,true,false,false,false,false] ?_;refine pPe 11 (some 49) #[true,true,true,true,true,true,true,true,true,true,true,true,false,false,false] ?_;refine pOe 12 (some 12) #[true,true,true,true,true,true,true,true,true,true,true,true,true,false,false] (fun K hK=>?_);refine box_step ?hg (N:=12) ?hd (cs:=#[.slice none 0 0,.slice none 0 0,.int .i64 0,.int .i64 0,.int .i64 0,.slice none 0 0]) (t:=39) ?hr ?_;(case hd=>rfl);(case hg=>rfl);(case hr=>first|(go_simp;done)|(go_simp;rfl));intro af hg wq8 hbox hb;have n0_:=mR ah hb;have n1_:=mR ag hb;have n2_:=aM (Kd.S_below (by have X_:=al.out;exact TS) hb);have n3_:=mB aa hb;have n4_:=mB ac hb;have n5_:=mB ad hb;have n6_:=mB ab hb;have n7_:=bS HB hb;have n8_:=aM (hbox);have n9_:=aM ((by rw[hg];exact(below_size TB):w.heap.size≤af));have bx:=aM ((by rw[hg];exact(below_size TB):w.heap.size≤af));have br:=aM ((by rw[hg];exact Nat.ne_of_lt (blk_lt (by have X_:=aa.out;exact TX)):au≠af));have bs:=aM ((by rw[hg];exact Nat.ne_of_gt (blk_lt (by have X_:=aa.out;exact TX)):af≠au));have bw:=aM ((by rw[hg];exact Nat.ne_of_lt (blk_lt (by have X_:=ac.out;exact TX)):gbq2≠af));have bt:=aM ((by rw[hg];exact Nat.ne_of_gt (blk_lt (by have X_:=ac.out;exact TX)):af≠gbq2));have bv:=aM ((by rw[hg];exact Nat.ne_of_lt (blk_lt (by have X_:=ad.out;exact TX)):gbq3≠af));have n16_:=aM ((by rw[hg];exact Nat.ne_of_gt (blk_lt (by have X_:=ad.out;exact TX)):af≠gbq3));have n17_:=aM ((by rw[hg];exact Nat.ne_of_lt (blk_lt (by have X_:=ab.out;exact TX)):gbq4≠af));have n18_:=aM ((by rw[hg];exact Nat.ne_of_gt (blk_lt (by have X_:=ab.out;exact TX)):af≠gbq4));clear ah;clear ag;clear al;clear aa;clear ac;clear ad;clear ab;clear HB;have ah:=n0_;have ag:=n1_;have al:=n2_;have aa:=n3_;have ac:=n4_;have ad:=n5_;have ab:=n6_;have HB:=n7_;have ae:=n8_;have bu:=n9_;have bz:=bx;have ba:=br;have aG:=bs;have bi:=bw;have aI:=bt;have bh:=bv;have aJ:=n16_;have bb:=n17_;have aH:=n18_;clear n0_ n1_ n2_ n3_ n4_ n5_ n6_ n7_ n8_ n9_ bx br bs bw bt bv n16_ n17_ n18_;clear hb hbox hg;refine hK.out _ _ (cJ6 aa.out (cK4 ac.out)) (fun hHeld=>?_);clear hK K;refine nR ?_;exact norm_ (by exact Zq39_7) (hCont (vq1,vq2,vq3,af) _ ⟨hHeld,(TRf ah),(TRf ag),(by have X_:=al.out;exact TS),TK,TK,TK,TK,TK,bu.out,bz.out,ba.out,aG.out,bi.out,aI.out,bh.out,aJ.out,bb.out,aH.out,TB⟩)
      ·skip
       refine box_step ?hg (N:=12) ?hd (cs:=#[.slice none 0 0,.slice none 0 0,.int .i64 0,.int .i64 0,.int .i64 0,.slice none 0 0]) (t:=39) ?hr ?_;(case hd=>rfl);(case hg=>rfl);(case hr=>first|(go_simp;done)|(go_simp;rfl));intro af hg wq7 hbox hb;have n0_:=mB aa hb;have n1_:=mB ac hb;have n2_:=mB ad hb;have n3_:=mB ab hb;have n4_:=bS HB hb;have n5_:=aM (hbox);have n6_:=aM ((by rw[hg];exact(below_size TB):w.heap.size≤af));have n7_:=aM ((by rw[hg];exact(below_size TB):w.heap.size≤af));have n8_:=aM ((by rw[hg];exact Nat.ne_of_lt (blk_lt (by have X_:=aa.out;exact TX)):au≠af));have n9_:=aM ((by rw[hg];exact Nat.ne_of_gt (blk_lt (by have X_:=aa.out;exact TX)):af≠au));have bx:=aM ((by rw[hg];exact Nat.ne_of_lt (blk_lt (by have X_:=ac.out;exact TX)):gbq2≠af));have br:=aM ((by rw[hg];exact Nat.ne_of_gt (blk_lt (by have X_:=ac.out;exact TX)):af≠gbq2));have bs:=aM ((by rw[hg];exact Nat.ne_of_lt (blk_lt (by have X_:=ad.out;exact TX)):gbq3≠af));have bw:=aM ((by rw[hg];exact Nat.ne_of_gt (blk_lt (by have X_:=ad.out;exact TX)):af≠gbq3));have bt:=aM ((by rw[hg];exact Nat.ne_of_lt (blk_lt (by have X_:=ab.out;exact TX)):gbq4≠af));have bv:=aM ((by rw[hg];exact Nat.ne_of_gt (blk_lt (by have X_:=ab.out;exact TX)):af≠gbq4));clear aa;clear ac;clear ad;clear ab;clear HB;have aa:=n0_;have ac:=n1_;have ad:=n2_;have ab:=n3_;have HB:=n4_;have ae:=n5_;have bu:=n6_;have bz:=n7_;have ba:=n8_;have aG:=n9_;have bi:=bx;have aI:=br;have bh:=bs;have aJ:=bw;have bb:=bt;have aH:=bv;clear n0_ n1_ n2_ n3_ n4_ n5_ n6_ n7_ n8_ n9_ bx br bs bw bt bv;clear hb hbox hg;refine hK.out _ _ (cJ6 aa.out (cK4 ac.out)) (fun hHeld=>?_);clear hK K;refine nR ?_;exact Yq39_1
     ·skip
      refine box_step ?hg (N:=12) ?hd (cs:=#[.slice none 0 0,.slice none 0 0,.int .i64 0,.int .i64 0,.int .i64 0,.slice none 0 0]) (t:=39) ?hr ?_;(case hd=>rfl);(case hg=>rfl);(case hr=>first|(go_simp;done)|(go_simp;rfl));intro af hg wq6 hbox hb;have n0_:=mB aa hb;have n1_:=mB ac hb;have n2_:=mB ad hb;have n3_:=mB ab hb;have n4_:=bS HB hb;have n5_:=aM (hbox);have n6_:=aM ((by rw[hg];exact(below_size TB):w.heap.size≤af));have n7_:=aM ((by rw[hg];exact(below_size TB):w.heap.size≤af));have n8_:=aM ((by rw[hg];exact Nat.ne_of_lt (blk_lt (by have X_:=aa.out;exact TX)):au≠af));have n9_:=aM ((by rw[hg];exact Nat.ne_of_gt (blk_lt (by have X_:=aa.out;exact TX)):af≠au));have bx:=aM ((by rw[hg];exact Nat.ne_of_lt (blk_lt (by have X_:=ac.out;exact TX)):gbq2≠af));have br:=aM ((by rw[hg];exact Nat.ne_of_gt (blk_lt (by have X_:=ac.out;exact TX)):af≠gbq2));have bs:=aM ((by rw[hg];exact Nat.ne_of_lt (blk_lt (by have X_:=ad.out;exact TX)):gbq3≠af));have bw:=aM ((by rw[hg];exact Nat.ne_of_gt (blk_lt (by have X_:=ad.out;exact TX)):af≠gbq3));have bt:=aM ((by rw[hg];exact Nat.ne_of_lt (blk_lt (by have X_:=ab.out;exact TX)):gbq4≠af));have bv:=aM ((by rw[hg];exact Nat.ne_of_gt (blk_lt (by have X_:=ab.out;exact TX)):af≠gbq4));clear aa;clear ac;clear ad;clear ab;clear HB;have aa:=n0_;have ac:=n1_;have ad:=n2_;have ab:=n3_;have HB:=n4_;have ae:=n5_;have bu:=n6_;have bz:=n7_;have ba:=n8_;have aG:=n9_;have bi:=bx;have aI:=br;have bh:=bs;have aJ:=bw;have bb:=bt;have aH:=bv;clear n0_ n1_ n2_ n3_ n4_ n5_ n6_ n7_ n8_ n9_ bx br bs bw bt bv;clear hb hbox hg;refine hK.out _ _ (cJ6 aa.out (cK4 ac.out)) (fun hHeld=>?_);clear hK K;refine nR ?_;refine pOe 4 (some 43) #[true,true,true,true,true,true,true,false,false,false,false,false,true,false,false] (fun K hK=>?_);refine gG Tryz.func39 #[.agg #[.slice av aj.length ay,.slice ax ak.length aA,.int .i64 ao,.int .i64 aq,.int .i64 ap,.slice az ai.length aw]] ?_;with_reducible refine(impl_Spare.calls ?side1 ?side2 ?side3 ?side4 ?side5 ?side6 Aq1.out).mono ?_
      (case side1=>exact Zq39_4);(case side2=>exact aW.out);(case side3=>exact Zq39_5);(case side4=>exact aV.out);(case side5=>exact Zq39_6);(case side6=>exact aU.out);rintro e wq7 ⟨rfl,hb⟩;refine⟨_,rfl,?_⟩;replace aa:=mB aa hb;replace ac:=mB ac hb;replace ad:=mB ad hb;replace ab:=mB ab hb;replace ae:=mB ae hb;replace HB:=bS HB hb;(try clear hb);refine hK.out _ _ (cJ6 aa.out (cK4 ac.out)) (fun hHeld=>?_);clear hK K;refine nR ?_;refine pPe 7 (some 46) #[true,true,true,true,true,true,true,true,false,false,false,false,true,false,false] ?_;exact Yq39_1
    rintro⟨vq1,vq2,vq3,af⟩ wq6 ⟨hS_,h0_,h1_,h2_,h3_,h4_,h5_,h6_,h7_,h8_,h9_,h10_,h11_,h12_,h13_,h14_,h15_,h16_,h17_,h18_⟩;clear aa ac ad ab HB;have ah:Aside0 (Kd.R (Kd.int .u8) 5 wq6 w.heap.size (fun k_=>some k_≠(vq2:Value).ownBlock) vq1 tq1):=⟨h0_⟩;have ag:Aside0 (Kd.R (Kd.int .u8) 5 wq6 w.heap.size (fun k_=>some k_≠(vq1:Value).ownBlock) vq2 tq2):=⟨h1_⟩;have al:Aside0 (Kd.S k91 91 wq6 w.heap.size (fun k_=>some k_≠(vq1:Value).ownBlock∧some k_≠(vq2:Value).ownBlock) vq3 tq6):=⟨h2_⟩;have aa:Aside0 (wq6.heap[au]?=some (.cells #[.slice av aj.length ay,.slice ax ak.length aA,.int .i64 ao,.int .i64 aq,.int .i64 ap,.slice az ai.length aw] 39 (0,0))):=⟨h3_⟩;have ac:Aside0 (wq6.heap[gbq2]?=some (.cells #[.int .i64 aB,.int .i64 aE,.int .i64 aC,.slice bd aF.length bf] 45 (0,0))):=⟨h4_⟩;have ad:Aside0 (wq6.heap[gbq3]?=some (.cells #[.int .i64 bj,.slice be aD.length bc] 47 (0,0))):=⟨h5_⟩;have ab:Aside0 (wq6.heap[gbq4]?=some (.cells #[.slice none 0 0,.slice none 0 0,.int .i64 0,.int .i64 0,.int .i64 0,.slice none 0 0] 39 (0,0))):=⟨h6_⟩;have ae:Aside0 (wq6.heap[af]?=some (.cells #[.slice none 0 0,.slice none 0 0,.int .i64 0,.int .i64 0,.int .i64 0,.slice none 0 0] 39 (0,0))):=⟨h7_⟩;have bu:Aside0 (w.heap.size≤af):=⟨h8_⟩;have bz:Aside0 (w.heap.size≤af):=⟨h9_⟩;have ba:Aside0 (au≠af):=⟨h10_⟩;have aG:Aside0 (af≠au):=⟨h11_⟩;have bi:Aside0 (gbq2≠af):=⟨h12_⟩;have aI:Aside0 (af≠gbq2):=⟨h13_⟩;have bh:Aside0 (gbq3≠af):=⟨h14_⟩;have aJ:Aside0 (af≠gbq3):=⟨h15_⟩;have bb:Aside0 (gbq4≠af):=⟨h16_⟩;have aH:Aside0 (af≠gbq4):=⟨h17_⟩;have HB:Aside0 (Below w.heap.size w wq6):=⟨h18_⟩;clear h0_ h1_ h2_ h3_ h4_ h5_ h6_ h7_ h8_ h9_ h10_ h11_ h12_ h13_ h14_ h15_ h16_ h17_ h18_;have hHeld:wq6.cell? ⟨au,0,none⟩=some (.slice av aj.length ay)∧wq6.cell? ⟨au,1,none⟩=some (.slice ax ak.length aA)∧wq6.cell? ⟨au,2,none⟩=some (.int .i64 ao)∧wq6.cell? ⟨au,3,none⟩=some (.int .i64 aq)∧wq6.cell? ⟨au,4,none⟩=some (.int .i64 ap)∧wq6.cell? ⟨au,5,none⟩=some (.slice az ai.length aw)∧wq6.cell? ⟨gbq2,0,none⟩=some (.int .i64 aB)∧wq6.cell? ⟨gbq2,1,none⟩=some (.int .i64 aE)∧wq6.cell? ⟨gbq2,2,none⟩=some (.int .i64 aC)∧wq6.cell? ⟨gbq2,3,none⟩=some (.slice bd aF.length bf):=hS_;obtain⟨aP,aQ,aT⟩:=Kd.R_slice ah.out;(first|subst aT|(injection aT with f1_ f2_ f3_;have f4_:=f1_.symm;have f5_:=f3_.symm;clear f1_ f2_ f3_;subst f4_;subst f5_));obtain⟨aK,aL,aO⟩:=Kd.R_slice ag.out;(first|subst aO|(injection aO with f1_ f2_ f3_;have f4_:=f1_.symm;have f5_:=f3_.symm;clear f1_ f2_ f3_;subst f4_;subst f5_));obtain⟨aN,aR,aS⟩:=Kd.S_slice al.out;(first|subst aS|(injection aS with f1_ f2_ f3_;have f4_:=f1_.symm;have f5_:=f3_.symm;clear f1_ f2_ f3_;subst f4_;subst f5_));refine norm_ (a':=?_) ?_ ?_;rotate_left
    ·simp only[putAll,Act.put,List.setIfInBounds_toArray,List.set_cons_zero,List.set_cons_succ];rfl
    refine pOe 13 none #[true,true,true,true,true,true,true,true,true,true,true,true,true,true,false] (fun K hK=>?_);have hsq1:wq6.cell? ⟨af,0,none⟩=some (.slice none 0 0):=bC ae 0;have hfsq1:=blk_frozen ae.out 0;have hnsq1:=ba.out;have hnsq2:=bi.out;have hnsq3:=bh.out;have hnsq4:=bb.out;have hmsq1:=aG.out;have hmsq2:=aI.out;have hmsq3:=aJ.out;have hmsq4:=aH.out;have hsq2:wq6.cell? ⟨af,1,none⟩=some (.slice none 0 0):=bC ae 1;have hfsq2:=blk_frozen ae.out 1;have hsq3:wq6.cell? ⟨af,2,none⟩=some (.int .i64 0):=bC ae 2;have hfsq3:=blk_frozen ae.out 2;have hsq4:wq6.cell? ⟨af,3,none⟩=some (.int .i64 0):=bC ae 3;have hfsq4:=blk_frozen ae.out 3;have hsq5:wq6.cell? ⟨af,4,none⟩=some (.int .i64 0):=bC ae 4;have hfsq5:=blk_frozen ae.out 4;have hsq6:wq6.cell? ⟨af,5,none⟩=some (.slice none 0 0):=bC ae 5;have hfsq6:=blk_frozen ae.out 5;refine skip_ (w1:=?_) (by rfl) rfl ?_ ?_;rotate_left
    ·go_simp;rfl
    refine hK.out _ _ ⟨(cf hHeld.1),(cf hHeld.2.1),(cf hHeld.2.2.1),(cf hHeld.2.2.2.1),(cf hHeld.2.2.2.2.1),(cf hHeld.2.2.2.2.2.1),(cf hHeld.2.2.2.2.2.2.1),(cf hHeld.2.2.2.2.2.2.2.1),(cf hHeld.2.2.2.2.2.2.2.2.1),(cf hHeld.2.2.2.2.2.2.2.2.2)⟩ (fun hHeld=>?_);clear hK K;refine pPe 14 (some 13) #[true,true,true,true,true,true,true,true,true,true,true,true,true,true,true] ?_;refine done_ (done_of HT_.out (by kernel_rfl)) ?_
    by_cases bg:tq7=true
    ·subst bg;replace H:=ifT H;simp only[Option.some.injEq,Prod.mk.injEq] at H;obtain⟨rfl,rfl,rfl,rfl,rfl,rfl,rfl⟩:=H;obtain⟨b5,bM⟩:=oB aG;obtain⟨bW,bU⟩:=oB aI;obtain⟨bV,bX⟩:=oB aJ;obtain⟨bZ,bK⟩:=oB aH;obtain⟨bJ,b2,bO,bR,bY,bL⟩:=cz6 ae.out;obtain⟨bQ,b4,b3,bP,b0,bT⟩:=fz6 ae.out;obtain⟨b1,bN⟩:=oB NBq8;obtain⟨cd,ca⟩:=oB NBq10;obtain⟨ce,cb⟩:=oB NBq12;obtain⟨bB,bI,bH,bp,bo,bl⟩:=cz6 ab.out;obtain⟨bG,bF,bA,bm,bq,bn⟩:=fz6 ab.out;try go_wp2
     exact Yq39_2
    ·replace bg:=b_F bg;subst bg;replace H:=ifF H;replace H:=bE H;obtain⟨⟨tq8,tq9,b6,b8,b9,b7⟩,Aq3,H⟩:=H;dsimp only at H;simp only[Option.some.injEq,Prod.mk.injEq] at H;obtain⟨rfl,rfl,rfl,rfl,rfl,rfl,rfl⟩:=H;obtain⟨b5,bM⟩:=oB NBq1;obtain⟨bW,bU⟩:=oB NBq3;obtain⟨bV,bX⟩:=oB NBq7;obtain⟨bZ,bK⟩:=oB ba;obtain⟨bJ,b2,bO,bR,bY,bL⟩:=cz6 aa.out;obtain⟨bQ,b4,b3,bP,b0,bT⟩:=fz6 aa.out;try go_wp2_with (first|(refine g_C 40 ?_;refine gL (some 57) Tryz.func40 #[.agg #[.slice av aj.length ay,.slice ax ak.length aA,.int .i64 ao,.int .i64 aq,.int .i64 ap,.slice az ai.length aw]] ?_;(with_reducible refine(impl_copyDisk.calls ?side1 ?side2 ?side3 ?side4 ?side5 ?side6 Aq3.out).mono ?_);(case side1=>exact Kd.C_below aX.out TB);(case side2=>exact aW.out);(case side3=>exact Kd.C_below aZ.out TB);(case side4=>exact aV.out);(case side5=>exact Kd.C_below aY.out TB);(case side6=>exact aU.out);rintro e wq7 ⟨vq4,vq5,vq6,rfl,an,am,ar,hb⟩;refine⟨_,rfl,?_⟩;have HOq4:=aM (Kd.R_lower (Kd.R_new' (Kd.R_new' an (Kd.R_lt (TY ah ae))) (Kd.R_lt (TY ag ae))) (below_size TB));have HOq5:=aM (Kd.R_lower (Kd.R_new' (Kd.R_new' am (Kd.R_lt (TY ah ae))) (Kd.R_lt (TY ag ae))) (below_size TB));have HOq6:=aM (Kd.S_lower (Kd.S_new' (Kd.S_new' (Kd.S_new' ar (Kd.R_lt (TY ah ae))) (Kd.R_lt (TY ag ae))) (Kd.S_lt (by exact Zq39_0))) (below_size TB));replace ah:=aM (Kd.R_mono (Kd.R_told (Kd.R_told (Kd.R_old (TY ah ae) hb) (Kd.R_base an)) (Kd.R_base am)) (fun _ h_=>h_.1));replace ag:=aM (Kd.R_mono (Kd.R_told (Kd.R_told (Kd.R_old (TY ag ae) hb) (Kd.R_base an)) (Kd.R_base am)) (fun _ h_=>h_.1));replace al:=aM (Kd.S_mono (Kd.S_told (Kd.S_told (Kd.S_told (Kd.S_old (by exact Zq39_0) hb) (Kd.R_base an)) (Kd.R_base am)) (Kd.S_base ar)) (fun _ h_=>h_.1));replace aa:=mB aa hb;replace ac:=mB ac hb;replace ad:=mB ad hb;replace ab:=mB ab hb;replace ae:=aM (blk_below (g:=af) (o:=.cells #[.slice aP tq1.length aQ,.slice aK tq2.length aL,.int .i64 tq3,.int .i64 tq4,.int .i64 tq5,.slice aN tq6.length aR] 39 (0,0)) (blk_put (blk_put (blk_put (blk_put (blk_put (blk_put (cs:=#[.slice none 0 0,.slice none 0 0,.int .i64 0,.int .i64 0,.int .i64 0,.slice none 0 0]) (TZ ae) 0 _ rfl) 1 _ rfl) 2 _ rfl) 3 _ rfl) 4 _ rfl) 5 _ rfl) hb);replace HB:=bS HB hb;clear an am ar hb;obtain⟨Aoq4,coq4,eoq4⟩:=Kd.R_slice HOq4.out;subst eoq4;obtain⟨b1,bN⟩:=oB NBq10;obtain⟨cd,ca⟩:=oB NBq12;obtain⟨ce,cb⟩:=oB bb;obtain⟨bB,bI,bH,bp,bo,bl⟩:=cz6 ab.out;obtain⟨bG,bF,bA,bm,bq,bn⟩:=fz6 ab.out;obtain⟨Aoq5,coq5,eoq5⟩:=Kd.R_slice HOq5.out;subst eoq5;obtain⟨Aoq6,coq6,eoq6⟩:=Kd.S_slice HOq6.out;subst eoq6))
     exact Yq39_3
   ·rw[if_neg cq7] at H;have cq8:(a3==3)=false:=beq_eq_false_iff_ne.mpr cq7;have cq9:(a3 != 3)=true:=bne_iff_ne.mpr cq7
    by_cases bg:a3=4
    ·rw[if_pos bg] at H;have cq11:(a3==4)=true:=beq_iff_eq.mpr bg;have cq12:(a3 != 4)=false:=bne_eq_false_iff_eq.mpr bg;clear bg;replace H:=bE H;obtain⟨⟨tq1,tq2,tq3,tq4,tq5,tq6⟩,Aq1,H⟩:=H;dsimp only at H;simp only[Option.some.injEq,Prod.mk.injEq] at H;obtain⟨rfl,rfl,rfl,rfl,rfl,rfl,rfl⟩:=H;go_enter Tryz.func12,Tryz.ntmps12;go_wp2_with (first|(refine g_D 4 ?_;refine gBx 4 #[.slice av aj.length ay,.slice ax ak.length aA,.int .i64 ao,.int .i64 aq,.int .i64 ap,.slice az ai.length aw] 39 ?_;intro au hg wq1 hbox hb;have aa:=aM (hbox);have GWq1:=gW HB hg;have GEq1:=gW HB hg;replace HB:=bS HB hb;clear hb hbox hg)|(refine g_D 5 ?_;refine gBx 5 #[.int .i64 aB,.int .i64 aE,.int .i64 aC,.slice bd aF.length bf] 45 ?_;intro gbq2 hg wq2 hbox hb;have ac:=aM (hbox);have GWq2:=gW HB hg;have GEq2:=gW HB hg;obtain⟨NBq1,NBq2⟩:=nB aa hg;replace aa:=mB aa hb;replace HB:=bS HB hb;clear hb hbox hg)|(refine g_D 6 ?_;refine gBx 6 #[.int .i64 bj,.slice be aD.length bc] 47 ?_;intro gbq3 hg wq3 hbox hb;have ad:=aM (hbox);have GWq3:=gW HB hg;have GEq3:=gW HB hg;obtain⟨NBq3,NBq4⟩:=nB aa hg;obtain⟨NBq5,NBq6⟩:=nB ac hg;replace aa:=mB aa hb;replace ac:=mB ac hb;replace HB:=bS HB hb;clear hb hbox hg)|(refine g_D 8 ?_;refine gBx 8 #[.slice none 0 0,.slice none 0 0,.int .i64 0,.int .i64 0,.int .i64 0,.slice none 0 0] 39 ?_;intro gbq4 hg wq4 hbox hb;have ab:=aM (hbox);have GWq4:=gW HB hg;have GEq4:=gW HB hg;obtain⟨NBq7,NBq8⟩:=nB aa hg;obtain⟨NBq9,NBq10⟩:=nB ac hg;obtain⟨NBq11,NBq12⟩:=nB ad hg;replace aa:=mB aa hb;replace ac:=mB ac hb;replace ad:=mB ad hb;replace HB:=bS HB hb;clear hb hbox hg;obtain⟨b5,bM⟩:=oB NBq1;obtain⟨bW,bU⟩:=oB NBq3;obtain⟨bV,bX⟩:=oB NBq7;obtain⟨bJ,b2,bO,bR,bY,bL⟩:=cz6 aa.out;obtain⟨bQ,b4,b3,bP,b0,bT⟩:=fz6 aa.out)|(refine g_C 37 ?_;refine gL (some 55) Tryz.func37 #[.agg #[.slice av aj.length ay,.slice ax ak.length aA,.int .i64 ao,.int .i64 aq,.int .i64 ap,.slice az ai.length aw]] ?_;(with_reducible refine(impl_Sure.calls ?side1 ?side2 ?side3 ?side4 ?side5 ?side6 Aq1.out).mono ?_);(case side1=>exact Zq39_4);(case side2=>exact aW.out);(case side3=>exact Zq39_5);(case side4=>exact aV.out);(case side5=>exact Zq39_6);(case side6=>exact aU.out);rintro e wq5 ⟨vq1,vq2,vq3,rfl,an,am,ar,hb⟩;refine⟨_,rfl,?_⟩;have ah:=aM (Kd.R_lower an (below_size TB));have ag:=aM (Kd.R_lower am (below_size TB));have al:=aM (Kd.S_lower ar (below_size TB));replace aa:=mB aa hb;replace ac:=mB ac hb;replace ad:=mB ad hb;replace ab:=mB ab hb;replace HB:=bS HB hb;clear an am ar hb;obtain⟨aP,aQ,aT⟩:=Kd.R_slice ah.out;subst aT;obtain⟨bZ,bK⟩:=oB NBq10;obtain⟨b1,bN⟩:=oB NBq12;obtain⟨bB,bI,bH,bp,bo,bl⟩:=cz6 ab.out;obtain⟨bG,bF,bA,bm,bq,bn⟩:=fz6 ab.out;obtain⟨aK,aL,aO⟩:=Kd.R_slice ag.out;subst aO;obtain⟨aN,aR,aS⟩:=Kd.S_slice al.out;subst aS))
     exact Yq39_0
    ·rw[if_neg bg] at H;have cq11:(a3==4)=false:=beq_eq_false_iff_ne.mpr bg;have cq12:(a3 != 4)=true:=bne_iff_ne.mpr bg;replace H:=bE H;obtain⟨⟨tq1,tq2,tq3,tq4,tq5,tq6⟩,Aq1,H⟩:=H;dsimp only at H;simp only[Option.some.injEq,Prod.mk.injEq] at H;obtain⟨rfl,rfl,rfl,rfl,rfl,rfl,rfl⟩:=H;go_enter Tryz.func12,Tryz.ntmps12;go_wp2_with (first|(refine g_D 4 ?_;refine gBx 4 #[.slice av aj.length ay,.slice ax ak.length aA,.int .i64 ao,.int .i64 aq,.int .i64 ap,.slice az ai.length aw] 39 ?_;intro au hg wq1 hbox hb;have aa:=aM (hbox);have GWq1:=gW HB hg;have GEq1:=gW HB hg;replace HB:=bS HB hb;clear hb hbox hg)|(refine g_D 5 ?_;refine gBx 5 #[.int .i64 aB,.int .i64 aE,.int .i64 aC,.slice bd aF.length bf] 45 ?_;intro gbq2 hg wq2 hbox hb;have ac:=aM (hbox);have GWq2:=gW HB hg;have GEq2:=gW HB hg;obtain⟨NBq1,NBq2⟩:=nB aa hg;replace aa:=mB aa hb;replace HB:=bS HB hb;clear hb hbox hg)|(refine g_D 6 ?_;refine gBx 6 #[.int .i64 bj,.slice be aD.length bc] 47 ?_;intro gbq3 hg wq3 hbox hb;have ad:=aM (hbox);have GWq3:=gW HB hg;have GEq3:=gW HB hg;obtain⟨NBq3,NBq4⟩:=nB aa hg;obtain⟨NBq5,NBq6⟩:=nB ac hg;replace aa:=mB aa hb;replace ac:=mB ac hb;replace HB:=bS HB hb;clear hb hbox hg)|(refine g_D 8 ?_;refine gBx 8 #[.slice none 0 0,.slice none 0 0,.int .i64 0,.int .i64 0,.int .i64 0,.slice none 0 0] 39 ?_;intro gbq4 hg wq4 hbox hb;have ab:=aM (hbox);have GWq4:=gW HB hg;have GEq4:=gW HB hg;obtain⟨NBq7,NBq8⟩:=nB aa hg;obtain⟨NBq9,NBq10⟩:=nB ac hg;obtain⟨NBq11,NBq12⟩:=nB ad hg;replace aa:=mB aa hb;replace ac:=mB ac hb;replace ad:=mB ad hb;replace HB:=bS HB hb;clear hb hbox hg;obtain⟨b5,bM⟩:=oB NBq1;obtain⟨bW,bU⟩:=oB NBq3;obtain⟨bV,bX⟩:=oB NBq7;obtain⟨bJ,b2,bO,bR,bY,bL⟩:=cz6 aa.out;obtain⟨bQ,b4,b3,bP,b0,bT⟩:=fz6 aa.out)|(refine g_C 40 ?_;refine gL (some 57) Tryz.func40 #[.agg #[.slice av aj.length ay,.slice ax ak.length aA,.int .i64 ao,.int .i64 aq,.int .i64 ap,.slice az ai.length aw]] ?_;(with_reducible refine(impl_copyDisk.calls ?side1 ?side2 ?side3 ?side4 ?side5 ?side6 Aq1.out).mono ?_);(case side1=>exact Zq39_4);(case side2=>exact aW.out);(case side3=>exact Zq39_5);(case side4=>exact aV.out);(case side5=>exact Zq39_6);(case side6=>exact aU.out);rintro e wq5 ⟨vq1,vq2,vq3,rfl,an,am,ar,hb⟩;refine⟨_,rfl,?_⟩;have ah:=aM (Kd.R_lower an (below_size TB));have ag:=aM (Kd.R_lower am (below_size TB));have al:=aM (Kd.S_lower ar (below_size TB));replace aa:=mB aa hb;replace ac:=mB ac hb;replace ad:=mB ad hb;replace ab:=mB ab hb;replace HB:=bS HB hb;clear an am ar hb;obtain⟨aP,aQ,aT⟩:=Kd.R_slice ah.out;subst aT;obtain⟨bZ,bK⟩:=oB NBq10;obtain⟨b1,bN⟩:=oB NBq12;obtain⟨bB,bI,bH,bp,bo,bl⟩:=cz6 ab.out;obtain⟨bG,bF,bA,bm,bq,bn⟩:=fz6 ab.out;obtain⟨aK,aL,aO⟩:=Kd.R_slice ag.out;subst aO;obtain⟨aN,aR,aS⟩:=Kd.S_slice al.out;subst aS))
     exact Yq39_0
def laws_eqByteS.l0 :Nat→List Int→List Int→Int→Option (Bool)
  |0,_,_,_=>none
  |k+1,x0,x1,x5=>if x5<(x0.length:Int) then (if 0≤x5 then (if x5<(x1.length:Int) then (if (rd x0 x5)=(rd x1 x5) then (laws_eqByteS.l0 k x0 x1 (wrap64 (x5+1))) else (some false)) else (none)) else (none)) else (some true)
def laws_eqByteS.f (k:Nat)(l0:List Int)(l1:List Int):Option (Bool):=if (l0.length:Int)=(l1.length:Int) then (laws_eqByteS.l0 k l0 l1 0) else (some false)
theorem laws_eqByteS.mono_l :∀k,(∀y0 y1 y2,LeO (laws_eqByteS.l0 k y0 y1 y2) (laws_eqByteS.l0 (k+1) y0 y1 y2))
  |0=>fun _ _ _ r h=>by simp [laws_eqByteS.l0] at h
  | k+1=>by
    have ih0:=laws_eqByteS.mono_l k
    · intro y0 y1 y2
      unfold laws_eqByteS.l0
      exact LM
theorem laws_eqByteS.mono :∀a0 a1 k,LeO (laws_eqByteS.f k a0 a1) (laws_eqByteS.f (k+1) a0 a1):=by
  intro a0 a1 k;have ih0:=laws_eqByteS.mono_l k;unfold laws_eqByteS.f;exact LM
theorem laws_eqByteS.calls {k:Nat}{A0:Option Addr}{c0:Nat}{l0:List Int}{A1:Option Addr}{c1:Nat}{l1:List Int}{r:Bool}{w:World}(hr0:Kd.C (Kd.int .u8) w A0 l0.length l0)(hc0:l0.length≤c0)(hr1:Kd.C (Kd.int .u8) w A1 l1.length l1)(hc1:l1.length≤c1)(h:laws_eqByteS.f k l0 l1=some r):
    Calls Tryz.prog 41 #[.slice A0 l0.length c0,.slice A1 l1.length c1] w fun e w'=>e=.returned (.bool r)∧Drawn0 w w':=by
  have HR0:=aM hr0
  have HC0:=aM hc0
  clear hr0 hc0
  have HR1:=aM hr1
  have HC1:=aM hc1
  clear hr1 hc1
  have H:=h
  clear h
  unfold laws_eqByteS.f at H
  by_cases c3:(l0.length:Int)=(l1.length:Int)
  · rw[if_pos c3] at H
    have c3b0:((l0.length:Int)==(l1.length:Int))=true:=beq_iff_eq.mpr c3
    have c3b1:((l0.length:Int) != (l1.length:Int))=false:=bne_eq_false_iff_eq.mpr c3
    have c3b2:(l0.length==l1.length)=true:=by first|simpa using c3|(simp at c3 ⊢;omega)
    clear c3
    have H':=aM H
    clear H
    go_enter Tryz.func41,Tryz.ntmps41
    go_wp2
    repeat (go_quiet (fail);try go_wp2)
    go_loopg [5] k (fun kq v5 w'=>∃(x5_1:Int),v5=.int .i64 x5_1∧Aside0 (laws_eqByteS.l0 kq l0 l1 x5_1=some r)∧Aside0 (kq≤k)∧Drawn0 w w')
    case atStart=>exact⟨(0),TF,H',⟨Nat.le_refl _⟩,TD⟩
    case round=>
      clear H'
      try clear c1
      try clear p2
      try clear c3
      try clear c3b0
      try clear c3b1
      try clear c3b2
      obtain⟨x5_1,rfl,HA,HK1,⟨m1,rfl⟩⟩:=hrel
      cases gk with
      |zero=>exact absurd HA.out (by simp [laws_eqByteS.l0])
      | succ k1=>
        have H:=HA.out
        clear HA
        simp only[laws_eqByteS.l0] at H
        by_cases c4:x5_1<(l0.length:Int)
        · rw[if_pos c4] at H
          have c4b0:decide (x5_1<(l0.length:Int))=true:=decide_eq_true c4
          clear c4
          replace H:=ifN H
          obtain⟨c5,H⟩:=H
          have c5b0:decide (0≤x5_1)=true:=decide_eq_true c5
          clear c5
          replace H:=ifN H
          obtain⟨c6,H⟩:=H
          have c6b0:decide (x5_1<(l1.length:Int))=true:=decide_eq_true c6
          clear c6
          by_cases c7:(rd l0 x5_1)=(rd l1 x5_1)
          · rw[if_pos c7] at H
            have c7b0:((rd l0 x5_1)==(rd l1 x5_1))=true:=beq_iff_eq.mpr c7
            have c7b1:((rd l0 x5_1) != (rd l1 x5_1))=false:=bne_eq_false_iff_eq.mpr c7
            clear c7
            have H':=aM H
            clear H
            have p989:0≤(x5_1:Int):=DT
            have q989:x5_1<(l0.length:Int):=DT
            obtain⟨ad989,e989,hx989_0⟩:=Kd.at_int HR0.out x5_1 p989 q989
            cases e989
            replace p989:=eq_true p989
            replace q989:=eq_true q989
            have p990:0≤(x5_1:Int):=DT
            have q990:x5_1<(l1.length:Int):=DT
            obtain⟨ad990,e990,hx990_0⟩:=Kd.at_int HR1.out x5_1 p990 q990
            cases e990
            replace p990:=eq_true p990
            replace q990:=eq_true q990
            go_wp2
            repeat (go_quiet (fail);try go_wp2)
            go_roundg k1
            case measure=>have:=HK1.out;omega
            case rel=>exact⟨(wrap64 (x5_1+1)),TF,H',⟨by have:=HK1.out;omega⟩,TD⟩
          · rw[if_neg c7] at H
            have c7b0:((rd l0 x5_1)==(rd l1 x5_1))=false:=beq_eq_false_iff_ne.mpr c7
            have c7b1:((rd l0 x5_1) != (rd l1 x5_1))=true:=bne_iff_ne.mpr c7
            obtain rfl:=o_I H
            have p989:0≤(x5_1:Int):=DT
            have q989:x5_1<(l0.length:Int):=DT
            obtain⟨ad989,e989,hx989_0⟩:=Kd.at_int HR0.out x5_1 p989 q989
            cases e989
            replace p989:=eq_true p989
            replace q989:=eq_true q989
            have p990:0≤(x5_1:Int):=DT
            have q990:x5_1<(l1.length:Int):=DT
            obtain⟨ad990,e990,hx990_0⟩:=Kd.at_int HR1.out x5_1 p990 q990
            cases e990
            replace p990:=eq_true p990
            replace q990:=eq_true q990
            go_wp2
            repeat (go_quiet (fail);try go_wp2)
            go_ret
            exact⟨by first|rfl|(simp;done)|(simp [*];done),TD⟩
        · rw[if_neg c4] at H
          have c4b0:decide (x5_1<(l0.length:Int))=false:=decide_eq_false c4
          clear c4
          obtain rfl:=o_I H
          go_wp2
          repeat (go_quiet (fail);try go_wp2)
          go_ret
          exact⟨by first|rfl|(simp;done)|(simp [*];done),TD⟩
  · rw[if_neg c3] at H
    have c3b0:((l0.length:Int)==(l1.length:Int))=false:=beq_eq_false_iff_ne.mpr c3
    have c3b1:((l0.length:Int) != (l1.length:Int))=true:=bne_iff_ne.mpr c3
    have c3b2:(l0.length==l1.length)=false:=by first|simpa using c3|(simp at c3 ⊢;omega)
    obtain rfl:=o_I H
    go_enter Tryz.func41,Tryz.ntmps41
    go_wp2
    repeat (go_quiet (fail);try go_wp2)
    go_ret
    exact⟨by first|rfl|(simp;done)|(simp [*];done),TD⟩
def laws_eqRecord.f (a0_0:Int)(a0_1:Int)(a0_2:Int)(a1_0:Int)(a1_1:Int)(a1_2:Int):Option (Bool):=if a0_0=a1_0 then (if a0_1=a1_1 then (if a0_2=a1_2 then (some true) else (some false)) else (some false)) else (some false)
theorem laws_eqRecord.calls {a0_0:Int}{a0_1:Int}{a0_2:Int}{a1_0:Int}{a1_1:Int}{a1_2:Int}{r:Bool}{w:World}(h:laws_eqRecord.f a0_0 a0_1 a0_2 a1_0 a1_1 a1_2=some r):
    Calls Tryz.prog 42 #[.agg #[.int .i64 a0_0,.int .i64 a0_1,.int .i64 a0_2],.agg #[.int .i64 a1_0,.int .i64 a1_1,.int .i64 a1_2]] w fun e w'=>e=.returned (.bool r)∧Below w.heap.size w w':=by
  have hu36:=Tryz.underlying36
  have HB:=aM (Below.refl w.heap.size w)
  have H:=h
  clear h
  unfold laws_eqRecord.f at H
  by_cases c3:a0_0=a1_0
  · rw[if_pos c3] at H
    have c3b0:(a0_0==a1_0)=true:=beq_iff_eq.mpr c3
    have c3b1:(a0_0 != a1_0)=false:=bne_eq_false_iff_eq.mpr c3
    clear c3
    by_cases c4:a0_1=a1_1
    · rw[if_pos c4] at H
      have c4b0:(a0_1==a1_1)=true:=beq_iff_eq.mpr c4
      have c4b1:(a0_1 != a1_1)=false:=bne_eq_false_iff_eq.mpr c4
      clear c4
      by_cases c5:a0_2=a1_2
      · rw[if_pos c5] at H
        have c5b0:(a0_2==a1_2)=true:=beq_iff_eq.mpr c5
        have c5b1:(a0_2 != a1_2)=false:=bne_eq_false_iff_eq.mpr c5
        clear c5
        obtain rfl:=o_I H
        go_enter Tryz.func42,Tryz.ntmps42
        go_wp2_with (first|(refine g_D 2 ?_;refine gBx 2 #[.int .i64 a0_0,.int .i64 a0_1,.int .i64 a0_2] 36 ?_;intro gb991 hg w6 hbox hb;have BK991:=aM (hbox);have GW991:=gW HB hg;have GE991:=gW HB hg;replace HB:=bS HB hb;clear hb hbox hg)|(refine g_D 3 ?_;refine gBx 3 #[.int .i64 a1_0,.int .i64 a1_1,.int .i64 a1_2] 36 ?_;intro gb992 hg w7 hbox hb;have BK992:=aM (hbox);have GW992:=gW HB hg;have GE992:=gW HB hg;obtain⟨NB991_992,NB992_991⟩:=nB BK991 hg;replace BK991:=mB BK991 hb;replace HB:=bS HB hb;clear hb hbox hg;obtain⟨hnb8,hnc8⟩:=oB NB991_992;obtain⟨hcz9_0,hcz9_1,hcz9_2⟩:=cz3 BK991.out;obtain⟨hfz9_0,hfz9_1,hfz9_2⟩:=fz3 BK991.out;obtain⟨hcz10_0,hcz10_1,hcz10_2⟩:=cz3 BK992.out;obtain⟨hfz10_0,hfz10_1,hfz10_2⟩:=fz3 BK992.out))
        go_ret
        exact⟨TE,TB⟩
      · rw[if_neg c5] at H
        have c5b0:(a0_2==a1_2)=false:=beq_eq_false_iff_ne.mpr c5
        have c5b1:(a0_2 != a1_2)=true:=bne_iff_ne.mpr c5
        obtain rfl:=o_I H
        go_enter Tryz.func42,Tryz.ntmps42
        go_wp2_with (first|(refine g_D 2 ?_;refine gBx 2 #[.int .i64 a0_0,.int .i64 a0_1,.int .i64 a0_2] 36 ?_;intro gb991 hg w11 hbox hb;have BK991:=aM (hbox);have GW991:=gW HB hg;have GE991:=gW HB hg;replace HB:=bS HB hb;clear hb hbox hg)|(refine g_D 3 ?_;refine gBx 3 #[.int .i64 a1_0,.int .i64 a1_1,.int .i64 a1_2] 36 ?_;intro gb992 hg w12 hbox hb;have BK992:=aM (hbox);have GW992:=gW HB hg;have GE992:=gW HB hg;obtain⟨NB991_992,NB992_991⟩:=nB BK991 hg;replace BK991:=mB BK991 hb;replace HB:=bS HB hb;clear hb hbox hg;obtain⟨hnb13,hnc13⟩:=oB NB991_992;obtain⟨hcz14_0,hcz14_1,hcz14_2⟩:=cz3 BK991.out;obtain⟨hfz14_0,hfz14_1,hfz14_2⟩:=fz3 BK991.out;obtain⟨hcz15_0,hcz15_1,hcz15_2⟩:=cz3 BK992.out;obtain⟨hfz15_0,hfz15_1,hfz15_2⟩:=fz3 BK992.out))
        go_ret
        exact⟨TE,TB⟩
    · rw[if_neg c4] at H
      have c4b0:(a0_1==a1_1)=false:=beq_eq_false_iff_ne.mpr c4
      have c4b1:(a0_1 != a1_1)=true:=bne_iff_ne.mpr c4
      obtain rfl:=o_I H
      go_enter Tryz.func42,Tryz.ntmps42
      go_wp2_with (first|(refine g_D 2 ?_;refine gBx 2 #[.int .i64 a0_0,.int .i64 a0_1,.int .i64 a0_2] 36 ?_;intro gb991 hg w16 hbox hb;have BK991:=aM (hbox);have GW991:=gW HB hg;have GE991:=gW HB hg;replace HB:=bS HB hb;clear hb hbox hg)|(refine g_D 3 ?_;refine gBx 3 #[.int .i64 a1_0,.int .i64 a1_1,.int .i64 a1_2] 36 ?_;intro gb992 hg w17 hbox hb;have BK992:=aM (hbox);have GW992:=gW HB hg;have GE992:=gW HB hg;obtain⟨NB991_992,NB992_991⟩:=nB BK991 hg;replace BK991:=mB BK991 hb;replace HB:=bS HB hb;clear hb hbox hg;obtain⟨hnb18,hnc18⟩:=oB NB991_992;obtain⟨hcz19_0,hcz19_1,hcz19_2⟩:=cz3 BK991.out;obtain⟨hfz19_0,hfz19_1,hfz19_2⟩:=fz3 BK991.out;obtain⟨hcz20_0,hcz20_1,hcz20_2⟩:=cz3 BK992.out;obtain⟨hfz20_0,hfz20_1,hfz20_2⟩:=fz3 BK992.out))
      go_ret
      exact⟨TE,TB⟩
  · rw[if_neg c3] at H
    have c3b0:(a0_0==a1_0)=false:=beq_eq_false_iff_ne.mpr c3
    have c3b1:(a0_0 != a1_0)=true:=bne_iff_ne.mpr c3
    obtain rfl:=o_I H
    go_enter Tryz.func42,Tryz.ntmps42
    go_wp2_with (first|(refine g_D 2 ?_;refine gBx 2 #[.int .i64 a0_0,.int .i64 a0_1,.int .i64 a0_2] 36 ?_;intro gb991 hg w21 hbox hb;have BK991:=aM (hbox);have GW991:=gW HB hg;have GE991:=gW HB hg;replace HB:=bS HB hb;clear hb hbox hg)|(refine g_D 3 ?_;refine gBx 3 #[.int .i64 a1_0,.int .i64 a1_1,.int .i64 a1_2] 36 ?_;intro gb992 hg w22 hbox hb;have BK992:=aM (hbox);have GW992:=gW HB hg;have GE992:=gW HB hg;obtain⟨NB991_992,NB992_991⟩:=nB BK991 hg;replace BK991:=mB BK991 hb;replace HB:=bS HB hb;clear hb hbox hg;obtain⟨hnb23,hnc23⟩:=oB NB991_992;obtain⟨hcz24_0,hcz24_1,hcz24_2⟩:=cz3 BK991.out;obtain⟨hfz24_0,hfz24_1,hfz24_2⟩:=fz3 BK991.out;obtain⟨hcz25_0,hcz25_1,hcz25_2⟩:=cz3 BK992.out;obtain⟨hfz25_0,hfz25_1,hfz25_2⟩:=fz3 BK992.out))
    go_ret
    exact⟨TE,TB⟩
def laws_eqPut.f (k:Nat)(a0_0:Int)(a0_1:Int)(l0_2:List Int)(a0_3:Int)(a0_4:Int)(a0_5:Int)(a1_0:Int)(a1_1:Int)(l1_2:List Int)(a1_3:Int)(a1_4:Int)(a1_5:Int):Option (Bool):=if a0_0=a1_0 then (if a0_1=a1_1 then ((laws_eqByteS.f k l0_2 l1_2).bind fun t995=>(if t995=true then ((laws_eqRecord.f a0_3 a0_4 a0_5 a1_3 a1_4 a1_5).bind fun t996=>(if t996=true then (some true) else (some false))) else (some false))) else (some false)) else (some false)
theorem laws_eqPut.mono :∀a0 a1 a2 a3 a4 a5 a6 a7 a8 a9 a10 a11 k,LeO (laws_eqPut.f k a0 a1 a2 a3 a4 a5 a6 a7 a8 a9 a10 a11) (laws_eqPut.f (k+1) a0 a1 a2 a3 a4 a5 a6 a7 a8 a9 a10 a11):=by
  intro a0 a1 a2 a3 a4 a5 a6 a7 a8 a9 a10 a11 k;have m0_:=@laws_eqByteS.mono;unfold laws_eqPut.f;exact LM
theorem Yq40_0 {p:Prop}(h:p:=by
 obtain rfl:=o_I H;go_enter Tryz.func76,Tryz.ntmps76;go_wp2_with (first|(refine g_D 2 ?_;refine gBx 2 #[.int .i64 af,.int .i64 ae,.slice ao ad.length am,.int .i64 aj,.int .i64 ah,.int .i64 ag] 91 ?_;intro gbq1 hg wq1 hbox hb;have BKq1:=aM (hbox);have GWq1:=gW HB hg;have GEq1:=gW HB hg;replace HB:=bS HB hb;clear hb hbox hg)|(refine g_D 3 ?_;refine gBx 3 #[.int .i64 aa,.int .i64 ac,.slice ap ab.length an,.int .i64 ai,.int .i64 al,.int .i64 ak] 91 ?_;intro gbq2 hg wq2 hbox hb;have BKq2:=aM (hbox);have GWq2:=gW HB hg;have GEq2:=gW HB hg;obtain⟨NBq1,NBq2⟩:=nB BKq1 hg;replace BKq1:=mB BKq1 hb;replace HB:=bS HB hb;clear hb hbox hg;obtain⟨hnbq1,hncq1⟩:=oB NBq1;obtain⟨hczq1,hczq2,hczq3,hczq4,hczq5,hczq6⟩:=cz6 BKq1.out;obtain⟨hfzq1,hfzq2,hfzq3,hfzq4,hfzq5,hfzq6⟩:=fz6 BKq1.out;obtain⟨hczq7,hczq8,hczq9,ax,av,aq⟩:=cz6 BKq2.out;obtain⟨hfzq7,hfzq8,hfzq9,ar,aw,au⟩:=fz6 BKq2.out))
 go_ret
 exact⟨TE,TB⟩):p:=h
theorem laws_eqPut.calls {k:Nat}{af:Int}{ae:Int}{ao:Option Addr}{am:Nat}{ad:List Int}{aj:Int}{ah:Int}{ag:Int}{aa:Int}{ac:Int}{ap:Option Addr}{an:Nat}{ab:List Int}{ai:Int}{al:Int}{ak:Int}{r:Bool}{w:World}(ay:Kd.C (Kd.int .u8) w ao ad.length ad)(aB:ad.length≤am)(aA:Kd.C (Kd.int .u8) w ap ab.length ab)(az:ab.length≤an)(h:laws_eqPut.f k af ae ad aj ah ag aa ac ab ai al ak=some r):
  Calls Tryz.prog 76 #[.agg #[.int .i64 af,.int .i64 ae,.slice ao ad.length am,.int .i64 aj,.int .i64 ah,.int .i64 ag],.agg #[.int .i64 aa,.int .i64 ac,.slice ap ab.length an,.int .i64 ai,.int .i64 al,.int .i64 ak]] w fun e w'=>e=.returned (.bool r)∧Below w.heap.size w w':=by
 have huq1:=Tryz.underlying91;have hu36:=Tryz.underlying36;have HRq1:=aM ay;have HCq1:=aM aB;clear ay aB;have HRq2:=aM aA;have HCq2:=aM az;clear aA az;have HB:=aM (Below.refl w.heap.size w);have H:=h;clear h;unfold laws_eqPut.f at H
 by_cases c3:af=aa
 ·rw[if_pos c3] at H;have c3b0:(af==aa)=true:=beq_iff_eq.mpr c3;have c3b1:(af != aa)=false:=bne_eq_false_iff_eq.mpr c3;clear c3
  by_cases c4:ae=ac
  ·rw[if_pos c4] at H;have c4b0:(ae==ac)=true:=beq_iff_eq.mpr c4;have c4b1:(ae != ac)=false:=bne_eq_false_iff_eq.mpr c4;clear c4;replace H:=bE H;obtain⟨t995,Aq1,H⟩:=H;go_enter Tryz.func76,Tryz.ntmps76;go_wp2_with (first|(refine g_D 2 ?_;refine gBx 2 #[.int .i64 af,.int .i64 ae,.slice ao ad.length am,.int .i64 aj,.int .i64 ah,.int .i64 ag] 91 ?_;intro gbq1 hg w7 hbox hb;have BKq1:=aM (hbox);have GWq1:=gW HB hg;have GEq1:=gW HB hg;replace HB:=bS HB hb;clear hb hbox hg)|(refine g_D 3 ?_;refine gBx 3 #[.int .i64 aa,.int .i64 ac,.slice ap ab.length an,.int .i64 ai,.int .i64 al,.int .i64 ak] 91 ?_;intro gbq2 hg wq1 hbox hb;have BKq2:=aM (hbox);have GWq2:=gW HB hg;have GEq2:=gW HB hg;obtain⟨NBq1,NBq2⟩:=nB BKq1 hg;replace BKq1:=mB BKq1 hb;replace HB:=bS HB hb;clear hb hbox hg;obtain⟨hnbq1,hncq1⟩:=oB NBq1;obtain⟨hcz10_0,hcz10_1,hcz10_2,hczq1,hczq2,hczq3⟩:=cz6 BKq1.out;obtain⟨hfz10_0,hfz10_1,hfz10_2,hfzq1,hfzq2,hfzq3⟩:=fz6 BKq1.out;obtain⟨hczq4,hczq5,hczq6,hczq7,hczq8,hczq9⟩:=cz6 BKq2.out;obtain⟨hfzq4,hfzq5,hfzq6,hfzq7,hfzq8,hfzq9⟩:=fz6 BKq2.out)|(refine g_C 41 ?_;refine gL (some 19) Tryz.func41 #[.slice ao ad.length am,.slice ap ab.length an] ?_;(with_reducible refine(laws_eqByteS.calls ?side1 ?side2 ?side3 ?side4 Aq1.out).mono ?_);(case side1=>have X_:=(Kd.C_below HRq1.out HB.out);exact TC);(case side2=>exact HCq1.out);(case side3=>have X_:=(Kd.C_below HRq2.out HB.out);exact TC);(case side4=>exact HCq2.out);rintro e w' ⟨rfl,⟨nd,rfl⟩⟩;refine⟨_,rfl,?_⟩)|(refine g_D 20 ?_;generalize hG_:wpList _ _ _ _ _ _=G_))
   subst hG_
   by_cases cq1:t995=true
   ·subst cq1;replace H:=ifT H;replace H:=bE H;obtain⟨t996,Aq2,H⟩:=H;obtain⟨hnbq2,hncq2⟩:=oB NBq1;obtain⟨ax,av,aq,hczq13,hczq14,hczq15⟩:=cz6 BKq1.out;obtain⟨ar,aw,au,hfzq13,hfzq14,hfzq15⟩:=fz6 BKq1.out;obtain⟨hczq16,hczq17,hczq18,hczq19,hczq20,hczq21⟩:=cz6 BKq2.out;obtain⟨hfzq16,hfzq17,hfzq18,hfzq19,hfzq20,hfzq21⟩:=fz6 BKq2.out
    by_cases cq2:t996=true
    ·subst cq2;replace H:=ifT H;obtain rfl:=o_I H;go_wp2_with (first|(refine g_C 42 ?_;refine gL (some 25) Tryz.func42 #[.agg #[.int .i64 aj,.int .i64 ah,.int .i64 ag],.agg #[.int .i64 ai,.int .i64 al,.int .i64 ak]] ?_;(with_reducible refine(laws_eqRecord.calls Aq2.out).mono ?_);rintro e wq2 ⟨rfl,hb⟩;refine⟨_,rfl,?_⟩;replace BKq1:=mB BKq1 hb;replace BKq2:=mB BKq2 hb;replace HB:=bS HB hb;clear hb))
     go_ret
     exact⟨TE,TB⟩
    ·replace cq2:=b_F cq2;subst cq2;replace H:=ifF H;obtain rfl:=o_I H;go_wp2_with (first|(refine g_C 42 ?_;refine gL (some 25) Tryz.func42 #[.agg #[.int .i64 aj,.int .i64 ah,.int .i64 ag],.agg #[.int .i64 ai,.int .i64 al,.int .i64 ak]] ?_;(with_reducible refine(laws_eqRecord.calls Aq2.out).mono ?_);rintro e w22 ⟨rfl,hb⟩;refine⟨_,rfl,?_⟩;replace BKq1:=mB BKq1 hb;replace BKq2:=mB BKq2 hb;replace HB:=bS HB hb;clear hb))
     go_ret
     exact⟨TE,TB⟩
   ·replace cq1:=b_F cq1;subst cq1;replace H:=ifF H;obtain rfl:=o_I H;go_wp2
    go_ret
    exact⟨TE,TB⟩
  ·rw[if_neg c4] at H;have c4b0:(ae==ac)=false:=beq_eq_false_iff_ne.mpr c4;have c4b1:(ae != ac)=true:=bne_iff_ne.mpr c4;exact Yq40_0
 ·rw[if_neg c3] at H;have c3b0:(af==aa)=false:=beq_eq_false_iff_ne.mpr c3;have c3b1:(af != aa)=true:=bne_iff_ne.mpr c3;exact Yq40_0
theorem Zq41_0 {p:Prop}(h:p:=by repeat (first|exact(Kd.C_below HRq2.out TB)|(with_reducible refine Kd.C_alloc ?_ _)|(with_reducible refine Kd.C_drewN ?_ _)|(with_reducible refine Kd.C_drew ?_))):p:=h
theorem Zq41_1 {p:Prop}(h:p:=by repeat (first|exact(Kd.C_below HRq5.out TB)|(with_reducible refine Kd.C_alloc ?_ _)|(with_reducible refine Kd.C_drewN ?_ _)|(with_reducible refine Kd.C_drew ?_))):p:=h
theorem Zq41_2 {p:Prop}(h:p:=by repeat (first|exact(Kd.C_below HRq3.out TB)|(with_reducible refine Kd.C_alloc ?_ _)|(with_reducible refine Kd.C_drewN ?_ _)|(with_reducible refine Kd.C_drew ?_))):p:=h
theorem Zq41_3 {p:Prop}(h:p:=by repeat (first|exact(Kd.C_below HRq6.out TB)|(with_reducible refine Kd.C_alloc ?_ _)|(with_reducible refine Kd.C_drewN ?_ _)|(with_reducible refine Kd.C_drew ?_))):p:=h
def laws_eqPutS.l0 :Nat→List (S91)→List (S91)→Int→Option (Bool)
  |0,_,_,_=>none
  |k+1,x0,x1,x5=>if x5<(x0.length:Int) then (if 0≤x5 then (if x5<(x1.length:Int) then ((laws_eqPut.f k ((rd_T91 x0 x5).f0) ((rd_T91 x0 x5).f1) ((rd_T91 x0 x5).f2) ((rd_T91 x0 x5).f3.f0) ((rd_T91 x0 x5).f3.f1) ((rd_T91 x0 x5).f3.f2) ((rd_T91 x1 x5).f0) ((rd_T91 x1 x5).f1) ((rd_T91 x1 x5).f2) ((rd_T91 x1 x5).f3.f0) ((rd_T91 x1 x5).f3.f1) ((rd_T91 x1 x5).f3.f2)).bind fun t999=>(if t999=true then (laws_eqPutS.l0 k x0 x1 (wrap64 (x5+1))) else (some false))) else (none)) else (none)) else (some true)
def laws_eqPutS.f (k:Nat)(l0:List (S91))(l1:List (S91)):Option (Bool):=if (l0.length:Int)=(l1.length:Int) then (laws_eqPutS.l0 k l0 l1 0) else (some false)
theorem laws_eqPutS.mono_l :∀k,(∀y0 y1 y2,LeO (laws_eqPutS.l0 k y0 y1 y2) (laws_eqPutS.l0 (k+1) y0 y1 y2))
  |0=>fun _ _ _ r h=>by simp [laws_eqPutS.l0] at h
  | k+1=>by
    have m0_:=@laws_eqPut.mono
    have ih0:=laws_eqPutS.mono_l k
    · intro y0 y1 y2
      unfold laws_eqPutS.l0
      exact LM
theorem laws_eqPutS.mono :∀a0 a1 k,LeO (laws_eqPutS.f k a0 a1) (laws_eqPutS.f (k+1) a0 a1):=by
  intro a0 a1 k;have m0_:=@laws_eqPut.mono;have ih0:=laws_eqPutS.mono_l k;unfold laws_eqPutS.f;exact LM
def laws_eqPutS.T6 :Bool×List (List Nat×List Nat):=(true,[([],[]),([],[]),([0,1],[0,1]),([2],[2]),([],[]),([],[]),([4,5],[4,5]),([6],[6]),([3,7],[3,7]),([8],[8])])
def laws_eqPutS.B6 :List Nat:=[0,0,3,7,0,0,48,112,255,511]
theorem laws_eqPutS.tab6 :rtab .any (opsOf Tryz.f43 6)=laws_eqPutS.T6:=by kernel_rfl
theorem laws_eqPutS.bits6 :waitsOk laws_eqPutS.T6.2 laws_eqPutS.B6=true:=by kernel_rfl
theorem laws_eqPutS.calls {k:Nat}{A0:Option Addr}{c0:Nat}{l0:List (S91)}{A1:Option Addr}{c1:Nat}{l1:List (S91)}{r:Bool}{w:World}(hr0:Kd.C k91 w A0 l0.length l0)(hc0:l0.length≤c0)(hr1:Kd.C k91 w A1 l1.length l1)(hc1:l1.length≤c1)(h:laws_eqPutS.f k l0 l1=some r):
    Calls Tryz.prog 43 #[.slice A0 l0.length c0,.slice A1 l1.length c1] w fun e w'=>e=.returned (.bool r)∧Below w.heap.size w w':=by
  have hu91:=Tryz.underlying91
  have HR0:=aM hr0
  have HC0:=aM hc0
  clear hr0 hc0
  have HR1:=aM hr1
  have HC1:=aM hc1
  clear hr1 hc1
  have HB:=aM (Below.refl w.heap.size w)
  have H:=h
  clear h
  unfold laws_eqPutS.f at H
  by_cases c3:(l0.length:Int)=(l1.length:Int)
  · rw[if_pos c3] at H
    have c3b0:((l0.length:Int)==(l1.length:Int))=true:=beq_iff_eq.mpr c3
    have c3b1:((l0.length:Int) != (l1.length:Int))=false:=bne_eq_false_iff_eq.mpr c3
    have c3b2:(l0.length==l1.length)=true:=by first|simpa using c3|(simp at c3 ⊢;omega)
    clear c3
    have H':=aM H
    clear H
    go_enter Tryz.func43,Tryz.ntmps43
    go_wp2
    go_loopg [5] k (fun kq v5 w'=>∃(x5_1:Int),v5=.int .i64 x5_1∧Aside0 (laws_eqPutS.l0 kq l0 l1 x5_1=some r)∧Aside0 (kq≤k)∧Aside0 (Below w.heap.size w w'))
    case atStart=>exact⟨(0),TF,H',⟨Nat.le_refl _⟩,⟨TB⟩⟩
    case round=>
      clear H'
      try clear c1
      try clear p2
      try clear c3
      try clear c3b0
      try clear c3b1
      try clear c3b2
      obtain⟨x5_1,rfl,HA,HK1,HB⟩:=hrel
      cases gk with
      |zero=>exact absurd HA.out (by simp [laws_eqPutS.l0])
      | succ k1=>
        have H:=HA.out
        clear HA
        simp only[laws_eqPutS.l0] at H
        by_cases c4:x5_1<(l0.length:Int)
        · rw[if_pos c4] at H
          have c4b0:decide (x5_1<(l0.length:Int))=true:=decide_eq_true c4
          clear c4
          replace H:=ifN H
          obtain⟨c5,H⟩:=H
          have c5b0:decide (0≤x5_1)=true:=decide_eq_true c5
          clear c5
          replace H:=ifN H
          obtain⟨c6,H⟩:=H
          have c6b0:decide (x5_1<(l1.length:Int))=true:=decide_eq_true c6
          clear c6
          replace H:=bE H
          obtain⟨t999,A7,H⟩:=H
          try go_wp2
          replace HB:=aM (below_drew1 HB.out)
          have p997:0≤(x5_1:Int):=DT
          have q997:x5_1<(l0.length:Int):=DT
          obtain⟨ad997,A997_2,c997_2,e997,hx997_0,hx997_1,hx997_2,hx997_3,hx997_4,hx997_5,hl997_2,hi997_2⟩:=at_T91 HR0.out x5_1 p997 q997
          have hw997_5:=hx997_5
          have hw997_4:=hx997_4
          have hw997_3:=hx997_3
          have hw997_2:=hx997_2
          have hw997_1:=hx997_1
          have hw997_0:=hx997_0
          cases e997
          replace hx997_0:=(HB.out.cell (World.block_lt_of_cell? w _ hx997_0)).trans hx997_0
          replace hx997_1:=(HB.out.cell (World.block_lt_of_cell? w _ hx997_1)).trans hx997_1
          replace hx997_2:=(HB.out.cell (World.block_lt_of_cell? w _ hx997_2)).trans hx997_2
          replace hx997_3:=(HB.out.cell (World.block_lt_of_cell? w _ hx997_3)).trans hx997_3
          replace hx997_4:=(HB.out.cell (World.block_lt_of_cell? w _ hx997_4)).trans hx997_4
          replace hx997_5:=(HB.out.cell (World.block_lt_of_cell? w _ hx997_5)).trans hx997_5
          have HR997_2:=aM hi997_2
          have HC997_2:=aM hl997_2
          clear hi997_2 hl997_2
          replace p997:=eq_true p997
          replace q997:=eq_true q997
          have p998:0≤(x5_1:Int):=DT
          have q998:x5_1<(l1.length:Int):=DT
          obtain⟨ad998,A998_2,c998_2,e998,hx998_0,hx998_1,hx998_2,hx998_3,hx998_4,hx998_5,hl998_2,hi998_2⟩:=at_T91 HR1.out x5_1 p998 q998
          have hw998_5:=hx998_5
          have hw998_4:=hx998_4
          have hw998_3:=hx998_3
          have hw998_2:=hx998_2
          have hw998_1:=hx998_1
          have hw998_0:=hx998_0
          cases e998
          replace hx998_0:=(HB.out.cell (World.block_lt_of_cell? w _ hx998_0)).trans hx998_0
          replace hx998_1:=(HB.out.cell (World.block_lt_of_cell? w _ hx998_1)).trans hx998_1
          replace hx998_2:=(HB.out.cell (World.block_lt_of_cell? w _ hx998_2)).trans hx998_2
          replace hx998_3:=(HB.out.cell (World.block_lt_of_cell? w _ hx998_3)).trans hx998_3
          replace hx998_4:=(HB.out.cell (World.block_lt_of_cell? w _ hx998_4)).trans hx998_4
          replace hx998_5:=(HB.out.cell (World.block_lt_of_cell? w _ hx998_5)).trans hx998_5
          have HR998_2:=aM hi998_2
          have HC998_2:=aM hl998_2
          clear hi998_2 hl998_2
          replace p998:=eq_true p998
          replace q998:=eq_true q998
          refine start_ (n:=10) (S:=fun w'=>w'.cell? (ad997.add ((x5_1).toNat * 6))=some (.int .i64 ((rd_T91 l0 x5_1).f0))∧w'.cell? ⟨(ad997.add ((x5_1).toNat * 6)).block,(ad997.add ((x5_1).toNat * 6)).off+1,none⟩=some (.int .i64 ((rd_T91 l0 x5_1).f1))∧w'.cell? ⟨(ad997.add ((x5_1).toNat * 6)).block,(ad997.add ((x5_1).toNat * 6)).off+2,none⟩=some (.slice A997_2 ((rd_T91 l0 x5_1).f2).length c997_2)∧w'.cell? ⟨(ad997.add ((x5_1).toNat * 6)).block,(ad997.add ((x5_1).toNat * 6)).off+3,none⟩=some (.int .i64 ((rd_T91 l0 x5_1).f3.f0))∧w'.cell? ⟨(ad997.add ((x5_1).toNat * 6)).block,(ad997.add ((x5_1).toNat * 6)).off+4,none⟩=some (.int .i64 ((rd_T91 l0 x5_1).f3.f1))∧w'.cell? ⟨(ad997.add ((x5_1).toNat * 6)).block,(ad997.add ((x5_1).toNat * 6)).off+5,none⟩=some (.int .i64 ((rd_T91 l0 x5_1).f3.f2))∧w'.cell? (ad998.add ((x5_1).toNat * 6))=some (.int .i64 ((rd_T91 l1 x5_1).f0))∧w'.cell? ⟨(ad998.add ((x5_1).toNat * 6)).block,(ad998.add ((x5_1).toNat * 6)).off+1,none⟩=some (.int .i64 ((rd_T91 l1 x5_1).f1))∧w'.cell? ⟨(ad998.add ((x5_1).toNat * 6)).block,(ad998.add ((x5_1).toNat * 6)).off+2,none⟩=some (.slice A998_2 ((rd_T91 l1 x5_1).f2).length c998_2)∧w'.cell? ⟨(ad998.add ((x5_1).toNat * 6)).block,(ad998.add ((x5_1).toNat * 6)).off+3,none⟩=some (.int .i64 ((rd_T91 l1 x5_1).f3.f0))∧w'.cell? ⟨(ad998.add ((x5_1).toNat * 6)).block,(ad998.add ((x5_1).toNat * 6)).off+4,none⟩=some (.int .i64 ((rd_T91 l1 x5_1).f3.f1))∧w'.cell? ⟨(ad998.add ((x5_1).toNat * 6)).block,(ad998.add ((x5_1).toNat * 6)).off+5,none⟩=some (.int .i64 ((rd_T91 l1 x5_1).f3.f2))) (ds:=[]) (Array.replicate 10 false) (by kernel_rfl) rfl rfl ⟨(b_W HB hw997_0),(b_W HB hw997_1),(b_W HB hw997_2),(b_W HB hw997_3),(b_W HB hw997_4),(b_W HB hw997_5),(b_W HB hw998_0),(b_W HB hw998_1),(b_W HB hw998_2),(b_W HB hw998_3),(b_W HB hw998_4),(b_W HB hw998_5)⟩ (fun hHeld=>?_);refine with_tabW laws_eqPutS.tab6 laws_eqPutS.bits6 (fun HT_ HW_=>?_)
          generalize wr.drew=w9 at HB HR997_2 HR998_2 hx997_0 hx997_1 hx997_2 hx997_3 hx997_4 hx997_5 hx998_0 hx998_1 hx998_2 hx998_3 hx998_4 hx998_5 hHeld ⊢
          refine ppq 0 17 ?_
          refine ppq 1 18 ?_
          refine ppq 2 19 ?_
          refine ppq 4 21 ?_
          refine ppq 5 22 ?_
          refine ppq 6 23 ?_
          refine ptq 3 20 ?_
          refine ptq 7 24 ?_
          refine poq 8 25 (fun K hK=>?_)
          refine gG Tryz.func76 #[.agg #[.int .i64 ((rd_T91 l0 x5_1).f0),.int .i64 ((rd_T91 l0 x5_1).f1),.slice A997_2 ((rd_T91 l0 x5_1).f2).length c997_2,.int .i64 ((rd_T91 l0 x5_1).f3.f0),.int .i64 ((rd_T91 l0 x5_1).f3.f1),.int .i64 ((rd_T91 l0 x5_1).f3.f2)],.agg #[.int .i64 ((rd_T91 l1 x5_1).f0),.int .i64 ((rd_T91 l1 x5_1).f1),.slice A998_2 ((rd_T91 l1 x5_1).f2).length c998_2,.int .i64 ((rd_T91 l1 x5_1).f3.f0),.int .i64 ((rd_T91 l1 x5_1).f3.f1),.int .i64 ((rd_T91 l1 x5_1).f3.f2)]] ?_
          with_reducible refine(laws_eqPut.calls ?side1 ?side2 ?side3 ?side4 A7.out).mono ?_
          (case side1=>have X_:=(Kd.C_below HR997_2.out HB.out);exact TC)
          (case side2=>exact HC997_2.out)
          (case side3=>have X_:=(Kd.C_below HR998_2.out HB.out);exact TC)
          (case side4=>exact HC998_2.out)
          rintro e w10 ⟨rfl,hb⟩
          refine⟨_,rfl,?_⟩
          replace HB:=bS HB hb
          (try clear hb)
          (try clear hb2)
          (try clear hk)
          (try clear hi)
          refine hK.out _ _ ⟨(b_W HB hw997_0),(b_W HB hw997_1),(b_W HB hw997_2),(b_W HB hw997_3),(b_W HB hw997_4),(b_W HB hw997_5),(b_W HB hw998_0),(b_W HB hw998_1),(b_W HB hw998_2),(b_W HB hw998_3),(b_W HB hw998_4),(b_W HB hw998_5)⟩ (fun hHeld=>?_)
          clear hK K
          refine nR ?_
          refine ppq 9 26 ?_
          refine done_ (done_of HT_.out (by kernel_rfl)) ?_
          by_cases c8:t999=true
          · subst c8
            replace H:=ifT H
            have H':=aM H
            clear H
            try go_wp2
            go_roundg k1
            case measure=>have:=HK1.out;omega
            case rel=>exact⟨(wrap64 (x5_1+1)),TF,H',⟨by have:=HK1.out;omega⟩,⟨TB⟩⟩
          · replace c8:=b_F c8
            subst c8
            replace H:=ifF H
            obtain rfl:=o_I H
            try go_wp2
            go_ret
            exact⟨TE,TB⟩
        · rw[if_neg c4] at H
          have c4b0:decide (x5_1<(l0.length:Int))=false:=decide_eq_false c4
          clear c4
          obtain rfl:=o_I H
          go_wp2
          go_ret
          exact⟨TE,TB⟩
  · rw[if_neg c3] at H
    have c3b0:((l0.length:Int)==(l1.length:Int))=false:=beq_eq_false_iff_ne.mpr c3
    have c3b1:((l0.length:Int) != (l1.length:Int))=true:=bne_iff_ne.mpr c3
    have c3b2:(l0.length==l1.length)=false:=by first|simpa using c3|(simp at c3 ⊢;omega)
    obtain rfl:=o_I H
    go_enter Tryz.func43,Tryz.ntmps43
    go_wp2
    go_ret
    exact⟨TE,TB⟩
def laws_eqDisk.f (k:Nat)(l0_0:List Int)(l0_1:List Int)(a0_2:Int)(a0_3:Int)(a0_4:Int)(l0_5:List (S91))(l1_0:List Int)(l1_1:List Int)(a1_2:Int)(a1_3:Int)(a1_4:Int)(l1_5:List (S91)):Option (Bool):=(laws_eqByteS.f k l0_0 l1_0).bind fun t1002=>(if t1002=true then ((laws_eqByteS.f k l0_1 l1_1).bind fun t1003=>(if t1003=true then ((laws_eqRecord.f a0_2 a0_3 a0_4 a1_2 a1_3 a1_4).bind fun t1004=>(if t1004=true then ((laws_eqPutS.f k l0_5 l1_5).bind fun t1005=>(if t1005=true then (some true) else (some false))) else (some false))) else (some false))) else (some false))
theorem laws_eqDisk.mono :∀a0 a1 a2 a3 a4 a5 a6 a7 a8 a9 a10 a11 k,LeO (laws_eqDisk.f k a0 a1 a2 a3 a4 a5 a6 a7 a8 a9 a10 a11) (laws_eqDisk.f (k+1) a0 a1 a2 a3 a4 a5 a6 a7 a8 a9 a10 a11):=by
  intro a0 a1 a2 a3 a4 a5 a6 a7 a8 a9 a10 a11 k;have m0_:=@laws_eqByteS.mono;have m1_:=@laws_eqPutS.mono;unfold laws_eqDisk.f;exact LM
theorem laws_eqDisk.calls {k:Nat}{ax:Option Addr}{az:Nat}{af:List Int}{ao:Option Addr}{aq:Nat}{ad:List Int}{ai:Int}{am:Int}{aj:Int}{ap:Option Addr}{ak:Nat}{aa:List (S91)}{aw:Option Addr}{ay:Nat}{ae:List Int}{ag:Option Addr}{ah:Nat}{ac:List Int}{av:Int}{al:Int}{ar:Int}{au:Option Addr}{an:Nat}{ab:List (S91)}{r:Bool}{w:World}(aG:Kd.C (Kd.int .u8) w ax af.length af)(aD:af.length≤az)(aK:Kd.C (Kd.int .u8) w ao ad.length ad)(aJ:ad.length≤aq)(aH:Kd.C k91 w ap aa.length aa)(aN:aa.length≤ak)(aB:Kd.C (Kd.int .u8) w aw ae.length ae)(aL:ae.length≤ay)(aO:Kd.C (Kd.int .u8) w ag ac.length ac)(aI:ac.length≤ah)(aE:Kd.C k91 w au ab.length ab)(aC:ab.length≤an)(h:laws_eqDisk.f k af ad ai am aj aa ae ac av al ar ab=some r):
  Calls Tryz.prog 13 #[.agg #[.slice ax af.length az,.slice ao ad.length aq,.int .i64 ai,.int .i64 am,.int .i64 aj,.slice ap aa.length ak],.agg #[.slice aw ae.length ay,.slice ag ac.length ah,.int .i64 av,.int .i64 al,.int .i64 ar,.slice au ab.length an]] w fun e w'=>e=.returned (.bool r)∧Below w.heap.size w w':=by
 have huq1:=Tryz.underlying39;have huq2:=Tryz.underlying36;have HRq1:=aM aG;have HCq1:=aM aD;clear aG aD;have HRq2:=aM aK;have HCq2:=aM aJ;clear aK aJ;have HRq3:=aM aH;have HCq3:=aM aN;clear aH aN;have HRq4:=aM aB;have HCq4:=aM aL;clear aB aL;have HRq5:=aM aO;have HCq5:=aM aI;clear aO aI;have HRq6:=aM aE;have HCq6:=aM aC;clear aE aC;have HB:=aM (Below.refl w.heap.size w);have H:=h;clear h;unfold laws_eqDisk.f at H;replace H:=bE H;obtain⟨aA,Aq1,H⟩:=H;go_enter Tryz.func13,Tryz.ntmps13;go_wp2_with (first|(refine g_D 2 ?_;refine gBx 2 #[.slice ax af.length az,.slice ao ad.length aq,.int .i64 ai,.int .i64 am,.int .i64 aj,.slice ap aa.length ak] 39 ?_;intro gbq1 hg wq1 hbox hb;have BKq1:=aM (hbox);have GWq1:=gW HB hg;have GEq1:=gW HB hg;replace HB:=bS HB hb;clear hb hbox hg)|(refine g_D 3 ?_;refine gBx 3 #[.slice aw ae.length ay,.slice ag ac.length ah,.int .i64 av,.int .i64 al,.int .i64 ar,.slice au ab.length an] 39 ?_;intro gbq2 hg wq2 hbox hb;have BKq2:=aM (hbox);have GWq2:=gW HB hg;have GEq2:=gW HB hg;obtain⟨NBq1,NBq2⟩:=nB BKq1 hg;replace BKq1:=mB BKq1 hb;replace HB:=bS HB hb;clear hb hbox hg;obtain⟨hnbq1,hncq1⟩:=oB NBq1;obtain⟨hczq1,hczq2,hczq3,hczq4,hczq5,hczq6⟩:=cz6 BKq1.out;obtain⟨hfzq1,hfzq2,hfzq3,hfzq4,hfzq5,hfzq6⟩:=fz6 BKq1.out;obtain⟨hczq7,hczq8,hczq9,hczq10,hczq11,hczq12⟩:=cz6 BKq2.out;obtain⟨hfzq7,hfzq8,hfzq9,hfzq10,hfzq11,hfzq12⟩:=fz6 BKq2.out)|(refine g_C 41 ?_;refine gL (some 9) Tryz.func41 #[.slice ax af.length az,.slice aw ae.length ay] ?_;(with_reducible refine(laws_eqByteS.calls ?side1 ?side2 ?side3 ?side4 Aq1.out).mono ?_);(case side1=>have X_:=(Kd.C_below HRq1.out HB.out);exact TC);(case side2=>exact HCq1.out);(case side3=>have X_:=(Kd.C_below HRq4.out HB.out);exact TC);(case side4=>exact HCq4.out);rintro e w' ⟨rfl,⟨nd,rfl⟩⟩;refine⟨_,rfl,?_⟩)|(refine g_D 10 ?_;generalize hG_:wpList _ _ _ _ _ _=G_))
 subst hG_
 by_cases cq1:aA=true
 ·subst cq1;replace H:=ifT H;replace H:=bE H;obtain⟨t1003,Aq2,H⟩:=H;obtain⟨hnbq2,hncq2⟩:=oB NBq1;obtain⟨hczq13,hczq14,hczq15,hczq16,hczq17,hczq18⟩:=cz6 BKq1.out;obtain⟨hfzq13,hfzq14,hfzq15,hfzq16,hfzq17,hfzq18⟩:=fz6 BKq1.out;obtain⟨hczq19,hczq20,hczq21,hczq22,hczq23,hczq24⟩:=cz6 BKq2.out;obtain⟨hfzq19,hfzq20,hfzq21,hfzq22,hfzq23,hfzq24⟩:=fz6 BKq2.out
  by_cases cq2:t1003=true
  ·subst cq2;replace H:=ifT H;replace H:=bE H;obtain⟨aF,Aq3,H⟩:=H;go_wp2_with (first|(refine g_C 41 ?_;refine gL (some 15) Tryz.func41 #[.slice ao ad.length aq,.slice ag ac.length ah] ?_;(with_reducible refine(laws_eqByteS.calls ?side1 ?side2 ?side3 ?side4 Aq2.out).mono ?_);(case side1=>exact Zq41_0);(case side2=>exact HCq2.out);(case side3=>exact Zq41_1);(case side4=>exact HCq5.out);rintro e w' ⟨rfl,⟨nd,rfl⟩⟩;refine⟨_,rfl,?_⟩)|(refine g_C 42 ?_;refine gL (some 21) Tryz.func42 #[.agg #[.int .i64 ai,.int .i64 am,.int .i64 aj],.agg #[.int .i64 av,.int .i64 al,.int .i64 ar]] ?_;(with_reducible refine(laws_eqRecord.calls Aq3.out).mono ?_);rintro e wq3 ⟨rfl,hb⟩;refine⟨_,rfl,?_⟩;replace BKq1:=mB BKq1 hb;replace BKq2:=mB BKq2 hb;replace HB:=bS HB hb;clear hb)|(refine g_D 22 ?_;generalize hG_:wpList _ _ _ _ _ _=G_))
   subst hG_
   by_cases cq3:aF=true
   ·subst cq3;replace H:=ifT H;replace H:=bE H;obtain⟨t1005,Aq4,H⟩:=H;obtain⟨hnbq3,hncq3⟩:=oB NBq1;obtain⟨hczq25,hczq26,hczq27,hczq28,hczq29,hczq30⟩:=cz6 BKq1.out;obtain⟨hfzq25,hfzq26,hfzq27,hfzq28,hfzq29,hfzq30⟩:=fz6 BKq1.out;obtain⟨hczq31,hczq32,hczq33,hczq34,hczq35,hczq36⟩:=cz6 BKq2.out;obtain⟨hfzq31,hfzq32,hfzq33,hfzq34,hfzq35,hfzq36⟩:=fz6 BKq2.out
    by_cases cq4:t1005=true
    ·subst cq4;replace H:=ifT H;obtain rfl:=o_I H;go_wp2_with (first|(refine g_C 43 ?_;refine gL (some 27) Tryz.func43 #[.slice ap aa.length ak,.slice au ab.length an] ?_;(with_reducible refine(laws_eqPutS.calls ?side1 ?side2 ?side3 ?side4 Aq4.out).mono ?_);(case side1=>exact Zq41_2);(case side2=>exact HCq3.out);(case side3=>exact Zq41_3);(case side4=>exact HCq6.out);rintro e wq4 ⟨rfl,hb⟩;refine⟨_,rfl,?_⟩;replace BKq1:=mB BKq1 hb;replace BKq2:=mB BKq2 hb;replace HB:=bS HB hb;clear hb))
     go_ret
     exact⟨TE,TB⟩
    ·replace cq4:=b_F cq4;subst cq4;replace H:=ifF H;obtain rfl:=o_I H;go_wp2_with (first|(refine g_C 43 ?_;refine gL (some 27) Tryz.func43 #[.slice ap aa.length ak,.slice au ab.length an] ?_;(with_reducible refine(laws_eqPutS.calls ?side1 ?side2 ?side3 ?side4 Aq4.out).mono ?_);(case side1=>exact Zq41_2);(case side2=>exact HCq3.out);(case side3=>exact Zq41_3);(case side4=>exact HCq6.out);rintro e wq4 ⟨rfl,hb⟩;refine⟨_,rfl,?_⟩;replace BKq1:=mB BKq1 hb;replace BKq2:=mB BKq2 hb;replace HB:=bS HB hb;clear hb))
     go_ret
     exact⟨TE,TB⟩
   ·replace cq3:=b_F cq3;subst cq3;replace H:=ifF H;obtain rfl:=o_I H;go_wp2
    go_ret
    exact⟨TE,TB⟩
  ·replace cq2:=b_F cq2;subst cq2;replace H:=ifF H;obtain rfl:=o_I H;go_wp2_with (first|(refine g_C 41 ?_;refine gL (some 15) Tryz.func41 #[.slice ao ad.length aq,.slice ag ac.length ah] ?_;(with_reducible refine(laws_eqByteS.calls ?side1 ?side2 ?side3 ?side4 Aq2.out).mono ?_);(case side1=>exact Zq41_0);(case side2=>exact HCq2.out);(case side3=>exact Zq41_1);(case side4=>exact HCq5.out);rintro e w' ⟨rfl,⟨nd,rfl⟩⟩;refine⟨_,rfl,?_⟩))
   go_ret
   exact⟨TE,TB⟩
 ·replace cq1:=b_F cq1;subst cq1;replace H:=ifF H;obtain rfl:=o_I H;go_wp2
  go_ret
  exact⟨TE,TB⟩
end Go.Proofs.YtjgmkkogmfogbaaGreat.Q
