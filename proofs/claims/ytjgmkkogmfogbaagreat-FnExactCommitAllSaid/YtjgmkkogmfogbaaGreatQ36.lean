/- Functions of the program as plain Lean functions, and that a call of each comes to what its function tells. -/
import Derived.Test.YtjgmkkogmfogbaaGreatQ5
import Derived.Test.YtjgmkkogmfogbaaGreatQ42
import Derived.Test.YtjgmkkogmfogbaaGreatQ29
import Derived.Test.YtjgmkkogmfogbaaGreatQ34
import Derived.Test.YtjgmkkogmfogbaaGreatQ21
set_option maxHeartbeats 40000000
set_option maxRecDepth 100000
namespace Go.Proofs.YtjgmkkogmfogbaaGreat.Q
open Go.RowKit Go.Proofs.YtjgmkkogmfogbaaGreatW.PrintWords Go.Proofs.YtjgmkkogmfogbaaGreatW.PrintLast Go.Proofs.YtjgmkkogmfogbaaGreatW.PrintMore
attribute [local go_sem] min2_int min_two
set_option linter.unusedVariables false
set_option linter.unusedSimpArgs false
theorem Zq35_0 {p:Prop}(h:p:=by (with_reducible repeat (first|apply Kd.S_alloc|apply Kd.S_drewN|apply Kd.S_drew));exact Kd.S_mono aA.out (fun _ hk=>⟨hk.2,⟨hk.1.1.1.1.1,⟨hk.1.1.1.1.2,⟨hk.1.1.1.2,⟨hk.1.1.2,hk.1.2⟩⟩⟩⟩⟩)):p:=h
theorem Zq35_1 {p:Prop}(h:p:=by (with_reducible repeat (first|apply Kd.S_alloc|apply Kd.S_drewN|apply Kd.S_drew));exact Kd.S_mono ah.out (fun _ hk=>⟨hk.1.1.1.2,⟨hk.1.1.2,⟨hk.1.2,⟨hk.2,⟨hk.1.1.1.1.1,hk.1.1.1.1.2⟩⟩⟩⟩⟩)):p:=h
theorem Zq35_2 {p:Prop}(h:p:=by (with_reducible repeat (first|apply Kd.R_alloc|apply Kd.R_drewN|apply Kd.R_drew));exact Kd.R_mono ag.out (fun _ hk=>⟨hk.1.2,⟨hk.2,⟨hk.1.1.1.2,hk.1.1.2⟩⟩⟩)):p:=h
theorem Zq35_3 {p:Prop}(h:p:=by (with_reducible repeat (first|apply Kd.R_alloc|apply Kd.R_drewN|apply Kd.R_drew));exact Kd.R_mono aJ.out (fun _ hk=>⟨hk.2,⟨hk.1.1.1,⟨hk.1.1.2,hk.1.2⟩⟩⟩)):p:=h
theorem Zq35_4 {p:Prop}(h:p:=by (with_reducible repeat (first|apply Kd.R_alloc|apply Kd.R_drewN|apply Kd.R_drew));exact Kd.R_mono aI.out (fun _ hk=>⟨hk.2,⟨hk.1.1.1,⟨hk.1.1.2,hk.1.2⟩⟩⟩)):p:=h
theorem Zq35_5 {p:Prop}(h:p:=by (with_reducible repeat (first|apply Kd.R_alloc|apply Kd.R_drewN|apply Kd.R_drew));exact Kd.R_mono ad.out (fun _ hk=>⟨hk.1.1.2,⟨hk.1.2,⟨hk.2,hk.1.1.1⟩⟩⟩)):p:=h
theorem Zq35_6 {p:Prop}(h:p:=by (with_reducible repeat (first|apply Kd.R_alloc|apply Kd.R_drewN|apply Kd.R_drew));exact Kd.R_mono ae.out (fun _ hk=>⟨hk.1.1.2,⟨hk.1.2,⟨hk.2,hk.1.1.1⟩⟩⟩)):p:=h
theorem Zq35_7 {p:Prop}(h:p:=by have X_:=(Kd.C_below be.out HB.out);exact TC):p:=h
theorem Zq35_8 {p:Prop}(h:p:=by have X_:=(Kd.C_below bj.out HB.out);exact TC):p:=h
theorem Zq35_9 {p:Prop}(h:p:=by have X_:=(Kd.C_below bi.out HB.out);exact TC):p:=h
theorem Zq35_10 {p:Prop}(h:p:=by simp only[putAll,Act.put,List.setIfInBounds_toArray,List.set_cons_zero,List.set_cons_succ]):p:=h
theorem Zq35_11 {p:Prop}(h:p:=by (with_reducible repeat (first|apply Kd.S_alloc|apply Kd.S_drewN|apply Kd.S_drew));exact(S_off (Kd.S_types ah.out af.out (by decide)) TO)):p:=h
theorem Zq35_12 {p:Prop}(h:p:=by (with_reducible repeat (first|apply Kd.S_alloc|apply Kd.S_drewN|apply Kd.S_drew));exact(S_off (Kd.S_types aA.out af.out (by decide)) TO)):p:=h
mutual
def impl_StageAll.j0 :Nat→List Int→Int→Bool→List Int→List Int→Int→Int→Int→List (S91)→Option (List Int×List Int×Int×Int×Int×(List (S91))×Bool)
  |0,_,_,_,_,_,_,_,_,_=>none
  |k+1,j,l,m,c,d,e,f,g,h=>if m=true then ((impl_copyDisk.f k c d e f g h).bind fun a=>(some (a.1,a.2.1,a.2.2.1,a.2.2.2.1,a.2.2.2.2.1,a.2.2.2.2.2,false))) else ((impl_copyDisk.f k c d e f g h).bind fun b=>((impl_Blocks.f l (j.length:Int)).bind fun i=>(impl_StageAll.l0 k j l i 0 c d e f g h b.1 b.2.1 b.2.2.1 b.2.2.2.1 b.2.2.2.2.1 b.2.2.2.2.2)))
def impl_StageAll.l0 :Nat→List Int→Int→Int→Int→List Int→List Int→Int→Int→Int→List (S91)→List Int→List Int→Int→Int→Int→List (S91)→Option (List Int×List Int×Int×Int×Int×(List (S91))×Bool)
  |0,_,_,_,_,_,_,_,_,_,_,_,_,_,_,_,_=>none
  |k+1,u,s,r,p,c,d,e,f,g,h,i,j,l,m,n,o=>if p<r then ((impl_BlockAt.f u s p).bind fun q=>((impl_Spare.f c d e f g h).bind fun t=>((impl_PutBytes.f k i j l m n o t (wrap64 (p * s)) q.1).bind fun a=>(if a.2.2.2.2.2.2=true then (impl_StageAll.l0 k u s r (wrap64 (p+1)) c d e f g h a.1 a.2.1 a.2.2.1 a.2.2.2.1 a.2.2.2.2.1 a.2.2.2.2.2.1) else ((impl_copyDisk.f k c d e f g h).bind fun b=>(some (b.1,b.2.1,b.2.2.1,b.2.2.2.1,b.2.2.2.2.1,b.2.2.2.2.2,false))))))) else (some (i,j,l,m,n,o,true))
end
def impl_StageAll.f (k:Nat)(b:List Int)(c:List Int)(d:Int)(e:Int)(f:Int)(a:List (S91))(g:List Int)(h:Int):Option (List Int×List Int×Int×Int×Int×(List (S91))×Bool):=(impl_DiskOk.f k b c d e f a).bind fun i=>(if i=true then (if (a.length:Int)>0 then (impl_StageAll.j0 k g h true b c d e f a) else ((impl_SizeOk.f h (g.length:Int)).bind fun j=>(impl_StageAll.j0 k g h (!j) b c d e f a))) else (impl_StageAll.j0 k g h true b c d e f a))
theorem impl_StageAll.mono_l :∀k,(∀a b c d e f g h i,LeO (impl_StageAll.j0 k a b c d e f g h i) (impl_StageAll.j0 (k+1) a b c d e f g h i))∧(∀a b c d e f g h i q j l m n o p,LeO (impl_StageAll.l0 k a b c d e f g h i q j l m n o p) (impl_StageAll.l0 (k+1) a b c d e f g h i q j l m n o p))
  |0=>⟨fun _ _ _ _ _ _ _ _ _ r h=>by simp [impl_StageAll.j0] at h,fun _ _ _ _ _ _ _ _ _ _ _ _ _ _ _ _ r h=>by simp [impl_StageAll.l0] at h⟩
  | k+1=>by
    have m0_:=@impl_DiskOk.mono
    have m1_:=@impl_PutBytes.mono
    have m2_:=@impl_copyDisk.mono
    obtain⟨ih0,ih1⟩:=impl_StageAll.mono_l k
    refine⟨?_,?_⟩
    · intro y0 y1 y2 y3 y4 y5 y6 y7 y8
      unfold impl_StageAll.j0
      exact LM
    · intro y0 y1 y2 y3 y4 y5 y6 y7 y8 y9 y10 y11 y12 y13 y14 y15
      unfold impl_StageAll.l0
      exact LM
theorem impl_StageAll.mono :∀a b c d e f g h k,LeO (impl_StageAll.f k a b c d e f g h) (impl_StageAll.f (k+1) a b c d e f g h):=by
  intro a0 a1 a2 a3 a4 a5 a6 a7 k;have m0_:=@impl_DiskOk.mono;have m1_:=@impl_PutBytes.mono;have m2_:=@impl_copyDisk.mono;obtain⟨ih0,ih1⟩:=impl_StageAll.mono_l k;unfold impl_StageAll.f;exact LM
def impl_StageAll.T8 :Bool×List (List Nat×List Nat):=(true,[([],[]),([],[]),([1],[1]),([],[]),([],[]),([3,4],[3,4]),([],[]),([0,2,5,6,2],[0,2,5,6]),([7],[7]),([8],[8]),([8],[8]),([],[]),([11,9,7,0,1,2,3,4,5,6,7,8,9,11],[9,11]),([10,12,0,1,2,3,4,5,6,7,8,9,10,11,12],[10])])
def impl_StageAll.B8 :List Nat:=[0,0,2,0,0,24,0,127,255,511,511,0,3071,8191]
theorem impl_StageAll.tab8 :rtab .any (opsOf Tryz.f36 8)=impl_StageAll.T8:=by kernel_rfl
theorem impl_StageAll.bits8 :waitsOk impl_StageAll.T8.2 impl_StageAll.B8=true:=by kernel_rfl
theorem Yq35_1 {p:Prop}(h:p:=by
 exact norm_ (by exact Zq35_10) (hCont (vq7,vq8,vq9,ai) _ ⟨hHeld,(by exact Zq35_2),(by exact Zq35_3),(by exact Zq35_4),(by exact Zq35_0),(by exact Zq35_5),(by exact Zq35_6),(by exact Zq35_1),TK,TK,TK,TK,bm.out,bl.out,bg.out,bh.out,aY.out,aQ.out,aR.out,aP.out,TB⟩)):p:=h
theorem Yq35_0 {p:Prop}(h:p:=by
 refine hK.out _ _ (cJ6 ac.out (cK6 aa.out)) (fun hHeld=>?_);clear hK K;refine nR ?_;refine pOe 7 (some 56) #[true,true,true,true,true,true,true,true,false,false,false,true,false,false] (fun K hK=>?_);refine gG Tryz.func70 #[.agg #[.slice aw xq6.length ax,.slice au xq7.length av,.int .i64 xq8,.int .i64 xq9,.int .i64 aK,.slice aO az.length aL],.int .i64 aS,.int .i64 (wrap64 (xq2 * a2)),.slice Aoq7 tq7.length coq7] ?_;with_reducible refine(impl_PutBytes.calls ?side1 ?side2 ?side3 ?side4 ?side5 ?side6 ?side7 ?side8 Aq5.out).mono ?_
 (case side1=>have X_:=(Kd.R_reads' ad.out).2.2;exact TC);(case side2=>exact(Kd.R_reads' ad.out).2.1);(case side3=>have X_:=(Kd.R_reads' ae.out).2.2;exact TC);(case side4=>exact(Kd.R_reads' ae.out).2.1);(case side5=>have X_:=(Kd.S_reads' ah.out).2.2;exact TC);(case side6=>exact(Kd.S_reads' ah.out).2.1);(case side7=>have X_:=(Kd.R_reads' ag.out).2.2;exact TC);(case side8=>exact(Kd.R_reads' ag.out).2.1);rintro e wq9 ⟨vq7,vq8,vq9,rfl,aj,ak,ay,hb⟩;refine⟨_,rfl,?_⟩;have n0_:=aM (Kd.R_mono (Kd.R_told (Kd.R_told (Kd.R_old (TRf ad) hb) (Kd.R_base aj)) (Kd.R_base ak)) (fun _ h_=>h_.1));have n1_:=aM (Kd.R_mono (Kd.R_told (Kd.R_told (Kd.R_old (TRf ae) hb) (Kd.R_base aj)) (Kd.R_base ak)) (fun _ h_=>h_.1));have n2_:=aM (Kd.S_mono (Kd.S_told (Kd.S_told (Kd.S_told (Kd.S_old (by have X_:=ah.out;exact TS) hb) (Kd.R_base aj)) (Kd.R_base ak)) (Kd.S_base ay)) (fun _ h_=>h_.1));have n3_:=aM (Kd.R_mono (Kd.R_told (Kd.R_told (Kd.R_old (TRf ag) hb) (Kd.R_base aj)) (Kd.R_base ak)) (fun _ h_=>h_.1));have n4_:=aM (Kd.R_lower (Kd.R_new' (Kd.R_new' (Kd.R_new' aj (Kd.R_lt (TRf ad))) (Kd.R_lt (TRf ae))) (Kd.R_lt (TRf ag))) (below_size TB));have n5_:=aM (Kd.R_lower (Kd.R_new' (Kd.R_new' (Kd.R_new' ak (Kd.R_lt (TRf ad))) (Kd.R_lt (TRf ae))) (Kd.R_lt (TRf ag))) (below_size TB));have n6_:=aM (Kd.S_lower (Kd.S_new' (Kd.S_new' (Kd.S_new' (Kd.S_new' ay (Kd.R_lt (TRf ad))) (Kd.R_lt (TRf ae))) (Kd.S_lt (by have X_:=ah.out;exact TS))) (Kd.R_lt (TRf ag))) (below_size TB));have n7_:=mB aa hb;have n8_:=mB ab hb;have n9_:=mB ac hb;have aH:=mB af hb;have aN:=bS HB hb;clear ad;clear ae;clear ah;clear ag;clear aa;clear ab;clear ac;clear af;clear HB;have ad:=n0_;have ae:=n1_;have ah:=n2_;have ag:=n3_;have aJ:=n4_;have aI:=n5_;have aA:=n6_;have aa:=n7_;have ab:=n8_;have ac:=n9_;have af:=aH;have HB:=aN;clear n0_ n1_ n2_ n3_ n4_ n5_ n6_ n7_ n8_ n9_ aH aN;(try clear hb);(try clear hk);(try clear aj);(try clear ak);(try clear ay);refine hK.out _ _ (cJ6 ac.out (cK6 aa.out)) (fun hHeld=>?_);clear hK K;refine nR ?_;refine pPe 8 (some 48) #[true,true,true,true,true,true,true,true,true,false,false,true,false,false] ?_;refine pPe 9 (some 57) #[true,true,true,true,true,true,true,true,true,true,false,true,false,false] ?_;refine pPe 10 (some 58) #[true,true,true,true,true,true,true,true,true,true,true,true,false,false] ?_;exact Yq35_1):p:=h
theorem impl_StageAll.calls {k:Nat}{aB:Option Addr}{aE:Nat}{am:List Int}{aD:Option Addr}{aG:Nat}{an:List Int}{ao:Int}{aq:Int}{ap:Int}{aF:Option Addr}{aC:Nat}{al:List (S91)}{A1:Option Addr}{c1:Nat}{l1:List Int}{a2:Int}{r1:List Int}{r2:List Int}{r3:Int}{r4:Int}{r5:Int}{r6:List (S91)}{r7:Bool}{w:World}(cL:Kd.C (Kd.int .u8) w aB am.length am)(cH:am.length≤aE)(cO:Kd.C (Kd.int .u8) w aD an.length an)(cN:an.length≤aG)(cM:Kd.C k91 w aF al.length al)(cP:al.length≤aC)(hr1:Kd.C (Kd.int .u8) w A1 l1.length l1)(hc1:l1.length≤c1)(h:impl_StageAll.f k am an ao aq ap al l1 a2=some (r1,r2,r3,r4,r5,r6,r7)):
  Calls Tryz.prog 36 #[.agg #[.slice aB am.length aE,.slice aD an.length aG,.int .i64 ao,.int .i64 aq,.int .i64 ap,.slice aF al.length aC],.slice A1 l1.length c1,.int .i64 a2] w fun e w'=>∃v0_ v1_ v5_:Value,e=.returned (.tuple #[.agg #[v0_,v1_,.int .i64 r3,.int .i64 r4,.int .i64 r5,v5_],.bool r7])∧Kd.R (Kd.int .u8) 5 w' w.heap.size (fun k_=>some k_≠(v1_:Value).ownBlock) v0_ r1∧Kd.R (Kd.int .u8) 5 w' w.heap.size (fun k_=>some k_≠(v0_:Value).ownBlock) v1_ r2∧Kd.S k91 91 w' w.heap.size (fun k_=>some k_≠(v0_:Value).ownBlock∧some k_≠(v1_:Value).ownBlock) v5_ r6∧Below w.heap.size w w':=by
 have huq1:=Tryz.underlying39;have be:=aM cL;have bc:=aM cH;clear cL cH;have bj:=aM cO;have aZ:=aM cN;clear cO cN;have bi:=aM cM;have aX:=aM cP;clear cM cP;have HRq4:=aM hr1;have HCq4:=aM hc1;clear hr1 hc1;have HB:=aM (Below.refl w.heap.size w);have H:=h;clear h;unfold impl_StageAll.f at H;have cB:=aM H;clear H;go_enter Tryz.func36,Tryz.ntmps36;go_upto_region 1 with (first|(refine g_D 3 ?_;(try (refine gate_guard (by rfl) ?_;dsimp only));refine gBx 3 #[.slice aB am.length aE,.slice aD an.length aG,.int .i64 ao,.int .i64 aq,.int .i64 ap,.slice aF al.length aC] 39 ?_;intro ar hg wq1 hbox hb;have aa:=aM (hbox);have GWq1:=gW HB hg;have GEq1:=gW HB hg;replace HB:=bS HB hb;clear hb hbox hg)|(refine g_D 6 ?_;(try (refine gate_guard (by rfl) ?_;dsimp only));refine gBx 6 #[.slice none 0 0,.slice none 0 0,.int .i64 0,.int .i64 0,.int .i64 0,.slice none 0 0] 39 ?_;intro gbq2 hg wq2 hbox hb;have ab:=aM (hbox);have GWq2:=gW HB hg;have GEq2:=gW HB hg;obtain⟨NBq1,NBq2⟩:=nB aa hg;replace aa:=mB aa hb;replace HB:=bS HB hb;clear hb hbox hg))
 (try simp only[NP])
 go_cut [29] (fun vq1 wc=>∃(kq:Nat) (xq1:Bool),vq1=.bool xq1∧Aside0 (impl_StageAll.j0 kq l1 a2 xq1 am an ao aq ap al=some (r1,r2,r3,r4,r5,r6,r7))∧Aside0 (kq≤k)∧Aside0 (wc.heap[ar]?=some (.cells #[(.slice aB am.length aE),(.slice aD an.length aG),.int .i64 ao,.int .i64 aq,.int .i64 ap,(.slice aF al.length aC)] 39 (0,0)))∧Aside0 (wc.heap[gbq2]?=some (.cells #[(.slice none 0 0),(.slice none 0 0),.int .i64 0,.int .i64 0,.int .i64 0,(.slice none 0 0)] 39 (0,0)))∧Aside0 (Below w.heap.size w wc))
 case first=>
  have H:=cB.out;clear cB;replace H:=bE H;obtain⟨t808,Aq1,H⟩:=H
  by_cases cq1:t808=true
  ·subst cq1;replace H:=ifT H
   by_cases cq2:(al.length:Int)>0
   ·rw[if_pos cq2] at H;have cq3:decide (0<(al.length:Int))=true:=decide_eq_true cq2;have cq4:decide (0<al.length)=true:=decide_eq_true (by omega);clear cq2;(first|rw[cq3]|(simp only[i64_w,i32_w];rw[cq3])|skip);have H':=aM H;clear H;obtain⟨bU,bO⟩:=oB NBq1;obtain⟨bo,bx,bq,bt,bv,bp⟩:=cz6 aa.out;obtain⟨bs,bA,bz,br,bw,bu⟩:=fz6 aa.out;go_wp2_with (first|(refine g_C 66 ?_;refine gL (some 15) Tryz.func66 #[.agg #[.slice aB am.length aE,.slice aD an.length aG,.int .i64 ao,.int .i64 aq,.int .i64 ap,.slice aF al.length aC]] ?_;(with_reducible refine(impl_DiskOk.calls ?side1 ?side2 ?side3 ?side4 ?side5 ?side6 Aq1.out).mono ?_);(case side1=>exact Zq35_7);(case side2=>exact bc.out);(case side3=>exact Zq35_8);(case side4=>exact aZ.out);(case side5=>exact Zq35_9);(case side6=>exact aX.out);rintro e wq3 ⟨rfl,hb⟩;refine⟨_,rfl,?_⟩;replace aa:=mB aa hb;replace ab:=mB ab hb;replace HB:=bS HB hb;clear hb;obtain⟨bN,bW,bV,bI,bH,bB⟩:=cz6 aa.out;obtain⟨bT,bQ,bM,bF,bJ,bG⟩:=fz6 aa.out))
    go_meet
    case rel=>exact⟨_,(true),TF,H',⟨by first|omega|exact Nat.le_refl _⟩,⟨TK⟩,⟨TK⟩,⟨TB⟩⟩
   ·rw[if_neg cq2] at H;have cq3:decide (0<(al.length:Int))=false:=decide_eq_false cq2;have cq4:decide (0<al.length)=false:=decide_eq_false (by omega);clear cq2;(first|rw[cq3]|(simp only[i64_w,i32_w];rw[cq3])|skip);replace H:=bE H;obtain⟨t809,Aq2,H⟩:=H;have H':=aM H;clear H;obtain⟨bU,bO⟩:=oB NBq1;obtain⟨bo,bx,bq,bt,bv,bp⟩:=cz6 aa.out;obtain⟨bs,bA,bz,br,bw,bu⟩:=fz6 aa.out;go_wp2_with (first|(refine g_C 66 ?_;refine gL (some 15) Tryz.func66 #[.agg #[.slice aB am.length aE,.slice aD an.length aG,.int .i64 ao,.int .i64 aq,.int .i64 ap,.slice aF al.length aC]] ?_;(with_reducible refine(impl_DiskOk.calls ?side1 ?side2 ?side3 ?side4 ?side5 ?side6 Aq1.out).mono ?_);(case side1=>exact Zq35_7);(case side2=>exact bc.out);(case side3=>exact Zq35_8);(case side4=>exact aZ.out);(case side5=>exact Zq35_9);(case side6=>exact aX.out);rintro e wq3 ⟨rfl,hb⟩;refine⟨_,rfl,?_⟩;replace aa:=mB aa hb;replace ab:=mB ab hb;replace HB:=bS HB hb;clear hb;obtain⟨bN,bW,bV,bI,bH,bB⟩:=cz6 aa.out;obtain⟨bT,bQ,bM,bF,bJ,bG⟩:=fz6 aa.out)|(go_at_call 67;(with_reducible refine(impl_SizeOk.calls Aq2.out).mono ?_);rintro e w' ⟨rfl,⟨nd,rfl⟩⟩))
    go_meet
    case rel=>exact⟨_,(!t809),TF,H',⟨by first|omega|exact Nat.le_refl _⟩,⟨TK⟩,⟨TK⟩,⟨TB⟩⟩
  ·replace cq1:=b_F cq1;subst cq1;replace H:=ifF H;have H':=aM H;clear H;obtain⟨bU,bO⟩:=oB NBq1;obtain⟨bo,bx,bq,bt,bv,bp⟩:=cz6 aa.out;obtain⟨bs,bA,bz,br,bw,bu⟩:=fz6 aa.out;go_wp2_with (first|(refine g_C 66 ?_;refine gL (some 15) Tryz.func66 #[.agg #[.slice aB am.length aE,.slice aD an.length aG,.int .i64 ao,.int .i64 aq,.int .i64 ap,.slice aF al.length aC]] ?_;(with_reducible refine(impl_DiskOk.calls ?side1 ?side2 ?side3 ?side4 ?side5 ?side6 Aq1.out).mono ?_);(case side1=>exact Zq35_7);(case side2=>exact bc.out);(case side3=>exact Zq35_8);(case side4=>exact aZ.out);(case side5=>exact Zq35_9);(case side6=>exact aX.out);rintro e wq3 ⟨rfl,hb⟩;refine⟨_,rfl,?_⟩;replace aa:=mB aa hb;replace ab:=mB ab hb;replace HB:=bS HB hb;clear hb))
   go_meet
   case rel=>exact⟨_,(true),TF,H',⟨by first|omega|exact Nat.le_refl _⟩,⟨TK⟩,⟨TK⟩,⟨TB⟩⟩
 case rest=>
  clear cB;try clear c1
  obtain⟨kq,xq1,rfl,HA,HJq1,aa,ab,HB⟩:=hcut;cases kq with
  |zero=>exact absurd HA.out (by simp [impl_StageAll.j0])
  | succ kj3=>
   have H:=HA.out;clear HA;simp only[impl_StageAll.j0] at H;obtain⟨bU,bO⟩:=oB NBq1;obtain⟨dw,c4,cX,dv,df,dh⟩:=cz6 aa.out;obtain⟨cZ,dA,c2,c8,cT,dn⟩:=fz6 aa.out
   by_cases bL:xq1=true
   ·subst bL;replace H:=ifT H;replace H:=bE H;obtain⟨⟨tq1,tq2,tq3,tq4,tq5,tq6⟩,Aq1,H⟩:=H;dsimp only at H;simp only[Option.some.injEq,Prod.mk.injEq] at H;obtain⟨rfl,rfl,rfl,rfl,rfl,rfl,rfl⟩:=H;go_wp2_with (first|(refine g_C 40 ?_;refine gL (some 31) Tryz.func40 #[.agg #[.slice aB am.length aE,.slice aD an.length aG,.int .i64 ao,.int .i64 aq,.int .i64 ap,.slice aF al.length aC]] ?_;(with_reducible refine(impl_copyDisk.calls ?side1 ?side2 ?side3 ?side4 ?side5 ?side6 Aq1.out).mono ?_);(case side1=>exact Zq35_7);(case side2=>exact bc.out);(case side3=>exact Zq35_8);(case side4=>exact aZ.out);(case side5=>exact Zq35_9);(case side6=>exact aX.out);rintro e wq3 ⟨vq2,vq3,vq4,rfl,aj,ak,ay,hb⟩;refine⟨_,rfl,?_⟩;have HOq1:=aM (Kd.R_lower aj (below_size TB));have HOq2:=aM (Kd.R_lower ak (below_size TB));have HOq3:=aM (Kd.S_lower ay (below_size TB));replace aa:=mB aa hb;replace ab:=mB ab hb;replace HB:=bS HB hb;clear aj ak ay hb;obtain⟨Aoq1,coq1,eoq1⟩:=Kd.R_slice HOq1.out;subst eoq1;obtain⟨b1,b4,cw,ck,ch,b8⟩:=cz6 ab.out;obtain⟨cl,b2,cg,b0,cp,cd⟩:=fz6 ab.out;obtain⟨Aoq2,coq2,eoq2⟩:=Kd.R_slice HOq2.out;subst eoq2;obtain⟨Aoq3,coq3,eoq3⟩:=Kd.S_slice HOq3.out;subst eoq3))
    refine bodyPost_ret (results_ct rfl _ _ gbq2 39 #[.slice Aoq1 tq1.length coq1,.slice Aoq2 tq2.length coq2,.int .i64 tq3,.int .i64 tq4,.int .i64 tq5,.slice Aoq3 tq6.length coq3] (0,0) _ rfl (blk_put (blk_put (blk_put (blk_put (blk_put (blk_put (cs:=#[.slice none 0 0,.slice none 0 0,.int .i64 0,.int .i64 0,.int .i64 0,.slice none 0 0]) (TZ ab) 0 _ rfl) 1 _ rfl) 2 _ rfl) 3 _ rfl) 4 _ rfl) 5 _ rfl) Tryz.underlying39 rfl (by kernel_rfl)) rfl ?_;exact⟨_,_,_,TE,by (with_reducible repeat (first|apply Kd.R_alloc|apply Kd.R_drewN|apply Kd.R_drew));exact Kd.R_mono (RK1 (Kd.R_types HOq1.out ab.out (by decide))) (fun _ hk=>hk.1),by (with_reducible repeat (first|apply Kd.R_alloc|apply Kd.R_drewN|apply Kd.R_drew));exact Kd.R_mono (RK1 (Kd.R_types HOq2.out ab.out (by decide))) (fun _ hk=>hk.1),by (with_reducible repeat (first|apply Kd.S_alloc|apply Kd.S_drewN|apply Kd.S_drew));exact Kd.S_mono (SK1 (Kd.S_types HOq3.out ab.out (by decide))) (fun _ hk=>⟨hk.1.1,hk.1.2⟩),TB⟩
   ·replace bL:=b_F bL;subst bL;replace H:=ifF H;replace H:=bE H;obtain⟨⟨tq1,tq2,tq3,tq4,tq5,tq6⟩,Aq1,H⟩:=H;dsimp only at H;replace H:=bE H;obtain⟨bK,Aq2,H⟩:=H;have H':=aM H;clear H;go_wp2_with (first|(refine g_C 40 ?_;refine gL (some 33) Tryz.func40 #[.agg #[.slice aB am.length aE,.slice aD an.length aG,.int .i64 ao,.int .i64 aq,.int .i64 ap,.slice aF al.length aC]] ?_;(with_reducible refine(impl_copyDisk.calls ?side1 ?side2 ?side3 ?side4 ?side5 ?side6 Aq1.out).mono ?_);(case side1=>exact Zq35_7);(case side2=>exact bc.out);(case side3=>exact Zq35_8);(case side4=>exact aZ.out);(case side5=>exact Zq35_9);(case side6=>exact aX.out);rintro e wq3 ⟨vq2,vq3,vq4,rfl,aj,ak,ay,hb⟩;refine⟨_,rfl,?_⟩;have HOq1:=aM (Kd.R_lower aj (below_size TB));have HOq2:=aM (Kd.R_lower ak (below_size TB));have HOq3:=aM (Kd.S_lower ay (below_size TB));replace aa:=mB aa hb;replace ab:=mB ab hb;replace HB:=bS HB hb;clear aj ak ay hb)|(refine g_D 8 ?_;(try (refine gate_guard (by rfl) ?_;dsimp only));refine gBx 8 #[.slice none 0 0,.slice none 0 0,.int .i64 0,.int .i64 0,.int .i64 0,.slice none 0 0] 39 ?_;intro gbq3 hg wq4 hbox hb;have ac:=aM (hbox);have GWq3:=gW HB hg;have GEq3:=gW HB hg;obtain⟨NBq3,NBq4⟩:=nB aa hg;obtain⟨NBq5,NBq6⟩:=nB ab hg;replace HOq1:=mR HOq1 hb;replace HOq2:=mR HOq2 hb;replace HOq3:=aM (Kd.S_below (by have X_:=HOq3.out;exact TS) hb);replace aa:=mB aa hb;replace ab:=mB ab hb;replace HB:=bS HB hb;clear hb hbox hg;obtain⟨Aoq1,coq1,eoq1⟩:=Kd.R_slice HOq1.out;subst eoq1;obtain⟨hnbq2,hncq2⟩:=oB NBq4;obtain⟨hnbq3,hncq3⟩:=oB NBq6;obtain⟨b1,b4,cw,ck,ch,b8⟩:=cz6 ac.out;obtain⟨cl,b2,cg,b0,cp,cd⟩:=fz6 ac.out;obtain⟨Aoq2,coq2,eoq2⟩:=Kd.R_slice HOq2.out;subst eoq2;obtain⟨Aoq3,coq3,eoq3⟩:=Kd.S_slice HOq3.out;subst eoq3)|(refine g_C 68 ?_;refine gL (some 37) Tryz.func68 #[.int .i64 a2,.int .i64 (l1.length:Int)] ?_;(with_reducible refine(impl_Blocks.calls Aq2.out).mono ?_);rintro e w' ⟨rfl,⟨nd,rfl⟩⟩;refine⟨_,rfl,?_⟩))
    go_loopg [38] kj3 (fun kq vq5 w'=>∃(xq2:Int) (xq3:Int) (xq4:Int) (xq5:Int) (xq6:List Int) (xq7:List Int) (xq8:Int) (xq9:Int) (aK:Int) (az:List (S91)) (uq1:Value) (uq2:Value) (uq3:Value),vq5=.int .i64 xq2∧Aside0 (impl_StageAll.l0 kq l1 a2 bK xq2 am an ao aq ap al xq6 xq7 xq8 xq9 aK az=some (r1,r2,r3,r4,r5,r6,r7))∧Aside0 (kq≤kj3)∧Aside0 (Kd.R (Kd.int .u8) 5 w' w.heap.size (fun k_=>some k_≠(uq2:Value).ownBlock) uq1 xq6)∧Aside0 (Kd.R (Kd.int .u8) 5 w' w.heap.size (fun k_=>some k_≠(uq1:Value).ownBlock) uq2 xq7)∧Aside0 (Kd.S k91 91 w' w.heap.size (fun k_=>some k_≠(uq1:Value).ownBlock∧some k_≠(uq2:Value).ownBlock) uq3 az)∧Aside0 (w'.heap[ar]?=some (.cells #[(.slice aB am.length aE),(.slice aD an.length aG),.int .i64 ao,.int .i64 aq,.int .i64 ap,(.slice aF al.length aC)] 39 (0,0)))∧Aside0 (w'.heap[gbq2]?=some (.cells #[(.slice none 0 0),(.slice none 0 0),.int .i64 xq3,.int .i64 xq4,.int .i64 xq5,(.slice none 0 0)] 39 (0,0)))∧Aside0 (w'.heap[gbq3]?=some (.cells #[uq1,uq2,.int .i64 xq8,.int .i64 xq9,.int .i64 aK,uq3] 39 (0,0)))∧Aside0 (Below w.heap.size w w'))
    case atStart=>exact⟨(0),(0),(0),(0),(tq1),(tq2),(tq3),(tq4),(tq5),(tq6),(.slice Aoq1 tq1.length coq1),(.slice Aoq2 tq2.length coq2),(.slice Aoq3 tq6.length coq3),TF,H',⟨Nat.le_refl _⟩,⟨by (with_reducible repeat (first|apply Kd.R_alloc|apply Kd.R_drewN|apply Kd.R_drew));exact Kd.R_mono (RK1 (Kd.R_types HOq1.out ac.out (by decide))) (fun _ hk=>hk.1)⟩,⟨by (with_reducible repeat (first|apply Kd.R_alloc|apply Kd.R_drewN|apply Kd.R_drew));exact Kd.R_mono (RK1 (Kd.R_types HOq2.out ac.out (by decide))) (fun _ hk=>hk.1)⟩,⟨by (with_reducible repeat (first|apply Kd.S_alloc|apply Kd.S_drewN|apply Kd.S_drew));exact Kd.S_mono (SK1 (Kd.S_types HOq3.out ac.out (by decide))) (fun _ hk=>⟨hk.1.1,hk.1.2⟩)⟩,⟨(TZ aa)⟩,⟨(TZ ab)⟩,⟨(blk_put (blk_put (blk_put (blk_put (blk_put (blk_put (cs:=#[.slice none 0 0,.slice none 0 0,.int .i64 0,.int .i64 0,.int .i64 0,.slice none 0 0]) (TZ ac) 0 _ rfl) 1 _ rfl) 2 _ rfl) 3 _ rfl) 4 _ rfl) 5 _ rfl)⟩,⟨TB⟩⟩
    case round=>
     clear H';try clear c1
     try clear bL
     try clear dw
     try clear c4
     try clear cX
     try clear dv
     try clear df
     try clear dh
     try clear b1
     try clear b4
     try clear cw
     try clear ck
     try clear ch
     try clear b8
     try clear cZ
     try clear dA
     try clear c2
     try clear c8
     try clear cT
     try clear dn
     try clear cl
     try clear b2
     try clear cg
     try clear b0
     try clear cp
     try clear cd
     obtain⟨xq2,xq3,xq4,xq5,xq6,xq7,xq8,xq9,aK,az,uq1,uq2,uq3,rfl,HA,HKq1,ad,ae,ah,aa,ab,ac,HB⟩:=hrel;cases gk with
     |zero=>exact absurd HA.out (by simp [impl_StageAll.l0])
     | succ k2=>
      have H:=HA.out;clear HA;simp only[impl_StageAll.l0] at H
      by_cases bn:xq2<bK
      ·rw[if_pos bn] at H;have cq20:decide (xq2<bK)=true:=decide_eq_true bn;clear bn;replace H:=bE H;obtain⟨⟨tq7,tq8⟩,Aq3,H⟩:=H;dsimp only at H;replace H:=bE H;obtain⟨aS,Aq4,H⟩:=H;replace H:=bE H;obtain⟨⟨tq9,aT,bb,bd,ba,aU,bk⟩,Aq5,H⟩:=H;dsimp only at H;try go_wp2_with (first|(refine g_C 69 ?_;refine gL (some 45) Tryz.func69 #[.slice A1 l1.length c1,.int .i64 a2,.int .i64 xq2] ?_;(with_reducible refine(impl_BlockAt.calls ?side1 ?side2 Aq3.out).mono ?_);(case side1=>have X_:=(Kd.C_below HRq4.out HB.out);exact TC);(case side2=>exact HCq4.out);rintro e wq5 ⟨vq6,rfl,aj,hb⟩;refine⟨_,rfl,?_⟩;have ag:=aM (Kd.R_lower (Kd.R_new' (Kd.R_new' aj (Kd.R_lt (TRf ad))) (Kd.R_lt (TRf ae))) (below_size TB));replace ad:=aM (Kd.R_elder' (TRf ad) (Kd.R_base aj) hb);replace ae:=aM (Kd.R_elder' (TRf ae) (Kd.R_base aj) hb);replace ah:=aM (Kd.S_elder' (by have X_:=ah.out;exact TS) (Kd.R_base aj) hb);replace aa:=mB aa hb;replace ab:=mB ab hb;replace ac:=mB ac hb;replace HB:=bS HB hb;clear aj hb;obtain⟨aw,ax,cz⟩:=Kd.R_slice ad.out;subst cz;obtain⟨au,av,cA⟩:=Kd.R_slice ae.out;subst cA;obtain⟨aO,aL,cC⟩:=Kd.S_slice ah.out;subst cC;obtain⟨Aoq7,coq7,eoq7⟩:=Kd.R_slice ag.out;subst eoq7))
       replace ad:=rD ad;replace ae:=rD ae;replace ah:=aM (Kd.S_drew ah.out);replace ag:=rD ag;replace aa:=bD aa;replace ab:=bD ab;replace ac:=bD ac;replace HB:=aM (below_drew1 HB.out);refine st_ (n:=14) (ds:=[]) #[false,false,false,false,false,false,false,false,false,false,false,false,false,false] (hJ6 ac.out (hK6 aa.out)) (by kernel_rfl) rfl rfl (fun hHeld=>?_);refine with_tabW impl_StageAll.tab8 impl_StageAll.bits8 (fun HT_ HW_=>?_);generalize wq5.drew=wq6 at ad ae ah ag aa ab ac HB hHeld ⊢;refine pPe 3 (some 52) #[false,false,false,true,false,false,false,false,false,false,false,false,false,false] ?_;refine pPe 4 (some 53) #[false,false,false,true,true,false,false,false,false,false,false,false,false,false] ?_;refine pPe 5 (some 54) #[false,false,false,true,true,true,false,false,false,false,false,false,false,false] ?_;refine pPe 6 (some 55) #[false,false,false,true,true,true,true,false,false,false,false,false,false,false] ?_;refine pTe 0 (some 49) #[true,false,false,true,true,true,true,false,false,false,false,false,false,false] ?_;refine pTe 1 (some 50) #[true,true,false,true,true,true,true,false,false,false,false,false,false,false] ?_;refine join_ (σ:=Value×Value×Value×Nat) 2 #[true,true,true,true,true,true,true,true,true,true,true,true,false,false] (fun s_=>[(51,.int .i64 aS),(56,.tuple #[.agg #[s_.1,s_.2.1,.int .i64 bb,.int .i64 bd,.int .i64 ba,s_.2.2.1],.bool bk]),(12,.pointer (some ⟨s_.2.2.2,0,none⟩)),(48,.tuple #[.agg #[s_.1,s_.2.1,.int .i64 bb,.int .i64 bd,.int .i64 ba,s_.2.2.1],.bool bk]),(57,.agg #[s_.1,s_.2.1,.int .i64 bb,.int .i64 bd,.int .i64 ba,s_.2.2.1]),(58,.bool bk)]) (fun s_ w'=>(w'.cell? ⟨gbq3,0,none⟩=some (.slice aw xq6.length ax)∧w'.cell? ⟨gbq3,1,none⟩=some (.slice au xq7.length av)∧w'.cell? ⟨gbq3,2,none⟩=some (.int .i64 xq8)∧w'.cell? ⟨gbq3,3,none⟩=some (.int .i64 xq9)∧w'.cell? ⟨gbq3,4,none⟩=some (.int .i64 aK)∧w'.cell? ⟨gbq3,5,none⟩=some (.slice aO az.length aL)∧w'.cell? ⟨ar,0,none⟩=some (.slice aB am.length aE)∧w'.cell? ⟨ar,1,none⟩=some (.slice aD an.length aG)∧w'.cell? ⟨ar,2,none⟩=some (.int .i64 ao)∧w'.cell? ⟨ar,3,none⟩=some (.int .i64 aq)∧w'.cell? ⟨ar,4,none⟩=some (.int .i64 ap)∧w'.cell? ⟨ar,5,none⟩=some (.slice aF al.length aC))∧(Kd.R (Kd.int .u8) 5 w' w.heap.size (fun k_=>some k_≠(s_.1:Value).ownBlock∧some k_≠(s_.2.1:Value).ownBlock∧some k_≠(.slice aw xq6.length ax:Value).ownBlock∧some k_≠(.slice au xq7.length av:Value).ownBlock) (.slice Aoq7 tq7.length coq7) tq7)∧(Kd.R (Kd.int .u8) 5 w' w.heap.size (fun k_=>some k_≠(.slice Aoq7 tq7.length coq7:Value).ownBlock∧some k_≠(s_.2.1:Value).ownBlock∧some k_≠(.slice aw xq6.length ax:Value).ownBlock∧some k_≠(.slice au xq7.length av:Value).ownBlock) s_.1 tq9)∧(Kd.R (Kd.int .u8) 5 w' w.heap.size (fun k_=>some k_≠(.slice Aoq7 tq7.length coq7:Value).ownBlock∧some k_≠(s_.1:Value).ownBlock∧some k_≠(.slice aw xq6.length ax:Value).ownBlock∧some k_≠(.slice au xq7.length av:Value).ownBlock) s_.2.1 aT)∧(Kd.S k91 91 w' w.heap.size (fun k_=>some k_≠(.slice Aoq7 tq7.length coq7:Value).ownBlock∧some k_≠(s_.1:Value).ownBlock∧some k_≠(s_.2.1:Value).ownBlock∧some k_≠(.slice aw xq6.length ax:Value).ownBlock∧some k_≠(.slice au xq7.length av:Value).ownBlock∧some k_≠(.slice aO az.length aL:Value).ownBlock) s_.2.2.1 aU)∧(Kd.R (Kd.int .u8) 5 w' w.heap.size (fun k_=>some k_≠(.slice Aoq7 tq7.length coq7:Value).ownBlock∧some k_≠(s_.1:Value).ownBlock∧some k_≠(s_.2.1:Value).ownBlock∧some k_≠(.slice au xq7.length av:Value).ownBlock) (.slice aw xq6.length ax) xq6)∧(Kd.R (Kd.int .u8) 5 w' w.heap.size (fun k_=>some k_≠(.slice Aoq7 tq7.length coq7:Value).ownBlock∧some k_≠(s_.1:Value).ownBlock∧some k_≠(s_.2.1:Value).ownBlock∧some k_≠(.slice aw xq6.length ax:Value).ownBlock) (.slice au xq7.length av) xq7)∧(Kd.S k91 91 w' w.heap.size (fun k_=>some k_≠(.slice Aoq7 tq7.length coq7:Value).ownBlock∧some k_≠(s_.1:Value).ownBlock∧some k_≠(s_.2.1:Value).ownBlock∧some k_≠(s_.2.2.1:Value).ownBlock∧some k_≠(.slice aw xq6.length ax:Value).ownBlock∧some k_≠(.slice au xq7.length av:Value).ownBlock) (.slice aO az.length aL) az)∧(w'.heap[ar]?=some (.cells #[.slice aB am.length aE,.slice aD an.length aG,.int .i64 ao,.int .i64 aq,.int .i64 ap,.slice aF al.length aC] 39 (0,0)))∧(w'.heap[gbq2]?=some (.cells #[.slice none 0 0,.slice none 0 0,.int .i64 xq3,.int .i64 xq4,.int .i64 xq5,.slice none 0 0] 39 (0,0)))∧(w'.heap[gbq3]?=some (.cells #[.slice aw xq6.length ax,.slice au xq7.length av,.int .i64 xq8,.int .i64 xq9,.int .i64 aK,.slice aO az.length aL] 39 (0,0)))∧(w'.heap[s_.2.2.2]?=some (.cells #[.slice none 0 0,.slice none 0 0,.int .i64 0,.int .i64 0,.int .i64 0,.slice none 0 0] 39 (0,0)))∧(w.heap.size≤s_.2.2.2)∧(w.heap.size≤s_.2.2.2)∧(ar≠s_.2.2.2)∧(s_.2.2.2≠ar)∧(gbq2≠s_.2.2.2)∧(s_.2.2.2≠gbq2)∧(gbq3≠s_.2.2.2)∧(s_.2.2.2≠gbq3)∧(Below w.heap.size w w')) ?_ ?_;rotate_left
       ·intro hCont;refine two_ (i:=2) (j:=11) (Ni:=some 51) (Nj:=some 12) #[true,true,true,true,true,true,true,false,false,false,false,false,false,false] #[true,true,false,true,true,true,true,false,false,false,false,true,false,false] rfl rfl rfl rfl (two_of HT_.out (by kernel_rfl)) (by decide) (by decide) (fun K hK=>?_) (fun K hK=>?_)
        ·skip
         refine gG Tryz.func39 #[.agg #[.slice aB am.length aE,.slice aD an.length aG,.int .i64 ao,.int .i64 aq,.int .i64 ap,.slice aF al.length aC]] ?_;with_reducible refine(impl_Spare.calls ?side1 ?side2 ?side3 ?side4 ?side5 ?side6 Aq4.out).mono ?_
         (case side1=>exact Zq35_7);(case side2=>exact bc.out);(case side3=>exact Zq35_8);(case side4=>exact aZ.out);(case side5=>exact Zq35_9);(case side6=>exact aX.out);rintro e wq7 ⟨rfl,hb⟩;refine⟨_,rfl,?_⟩;replace ad:=mR ad hb;replace ae:=mR ae hb;replace ah:=aM (Kd.S_below (by have X_:=ah.out;exact TS) hb);replace ag:=mR ag hb;replace aa:=mB aa hb;replace ab:=mB ab hb;replace ac:=mB ac hb;replace HB:=bS HB hb;(try clear hb);(try clear hk);refine hK.out _ _ (cJ6 ac.out (cK6 aa.out)) (fun hHeld=>?_);clear hK K;refine nR ?_;refine two_ (i:=7) (j:=11) (Ni:=some 56) (Nj:=some 12) #[true,true,true,true,true,true,true,true,false,false,false,false,false,false] #[true,true,true,true,true,true,true,false,false,false,false,true,false,false] rfl rfl rfl rfl (two_of HT_.out (by kernel_rfl)) (by decide) (by decide) (fun K hK=>?_) (fun K hK=>?_)
         ·skip
          refine gG Tryz.func70 #[.agg #[.slice aw xq6.length ax,.slice au xq7.length av,.int .i64 xq8,.int .i64 xq9,.int .i64 aK,.slice aO az.length aL],.int .i64 aS,.int .i64 (wrap64 (xq2 * a2)),.slice Aoq7 tq7.length coq7] ?_;with_reducible refine(impl_PutBytes.calls ?side1 ?side2 ?side3 ?side4 ?side5 ?side6 ?side7 ?side8 Aq5.out).mono ?_
          (case side1=>have X_:=(Kd.R_reads' ad.out).2.2;exact TC);(case side2=>exact(Kd.R_reads' ad.out).2.1);(case side3=>have X_:=(Kd.R_reads' ae.out).2.2;exact TC);(case side4=>exact(Kd.R_reads' ae.out).2.1);(case side5=>have X_:=(Kd.S_reads' ah.out).2.2;exact TC);(case side6=>exact(Kd.S_reads' ah.out).2.1);(case side7=>have X_:=(Kd.R_reads' ag.out).2.2;exact TC);(case side8=>exact(Kd.R_reads' ag.out).2.1);rintro e wq8 ⟨vq7,vq8,vq9,rfl,aj,ak,ay,hb⟩;refine⟨_,rfl,?_⟩;have n0_:=aM (Kd.R_mono (Kd.R_told (Kd.R_told (Kd.R_old (TRf ad) hb) (Kd.R_base aj)) (Kd.R_base ak)) (fun _ h_=>h_.1));have n1_:=aM (Kd.R_mono (Kd.R_told (Kd.R_told (Kd.R_old (TRf ae) hb) (Kd.R_base aj)) (Kd.R_base ak)) (fun _ h_=>h_.1));have n2_:=aM (Kd.S_mono (Kd.S_told (Kd.S_told (Kd.S_told (Kd.S_old (by have X_:=ah.out;exact TS) hb) (Kd.R_base aj)) (Kd.R_base ak)) (Kd.S_base ay)) (fun _ h_=>h_.1));have n3_:=aM (Kd.R_mono (Kd.R_told (Kd.R_told (Kd.R_old (TRf ag) hb) (Kd.R_base aj)) (Kd.R_base ak)) (fun _ h_=>h_.1));have n4_:=aM (Kd.R_lower (Kd.R_new' (Kd.R_new' (Kd.R_new' aj (Kd.R_lt (TRf ad))) (Kd.R_lt (TRf ae))) (Kd.R_lt (TRf ag))) (below_size TB));have n5_:=aM (Kd.R_lower (Kd.R_new' (Kd.R_new' (Kd.R_new' ak (Kd.R_lt (TRf ad))) (Kd.R_lt (TRf ae))) (Kd.R_lt (TRf ag))) (below_size TB));have n6_:=aM (Kd.S_lower (Kd.S_new' (Kd.S_new' (Kd.S_new' (Kd.S_new' ay (Kd.R_lt (TRf ad))) (Kd.R_lt (TRf ae))) (Kd.S_lt (by have X_:=ah.out;exact TS))) (Kd.R_lt (TRf ag))) (below_size TB));have n7_:=mB aa hb;have n8_:=mB ab hb;have n9_:=mB ac hb;have aH:=bS HB hb;clear ad;clear ae;clear ah;clear ag;clear aa;clear ab;clear ac;clear HB;have ad:=n0_;have ae:=n1_;have ah:=n2_;have ag:=n3_;have aJ:=n4_;have aI:=n5_;have aA:=n6_;have aa:=n7_;have ab:=n8_;have ac:=n9_;have HB:=aH;clear n0_ n1_ n2_ n3_ n4_ n5_ n6_ n7_ n8_ n9_ aH;(try clear hb);(try clear hk);(try clear aj);(try clear ak);(try clear ay);refine hK.out _ _ (cJ6 ac.out (cK6 aa.out)) (fun hHeld=>?_);clear hK K;refine nR ?_;refine pPe 8 (some 48) #[true,true,true,true,true,true,true,true,true,false,false,false,false,false] ?_;refine pPe 9 (some 57) #[true,true,true,true,true,true,true,true,true,true,false,false,false,false] ?_;refine pPe 10 (some 58) #[true,true,true,true,true,true,true,true,true,true,true,false,false,false] ?_;refine pOe 11 (some 12) #[true,true,true,true,true,true,true,true,true,true,true,true,false,false] (fun K hK=>?_);refine box_step ?hg (N:=12) ?hd (cs:=#[.slice none 0 0,.slice none 0 0,.int .i64 0,.int .i64 0,.int .i64 0,.slice none 0 0]) (t:=39) ?hr ?_;(case hd=>rfl);(case hg=>rfl);(case hr=>first|(go_simp;done)|(go_simp;rfl));intro ai hg wq9 hbox hb;have n0_:=mR ad hb;have n1_:=mR ae hb;have n2_:=aM (Kd.S_below (by have X_:=ah.out;exact TS) hb);have n3_:=mR ag hb;have n4_:=mR aJ hb;have n5_:=mR aI hb;have n6_:=aM (Kd.S_below (by have X_:=aA.out;exact TS) hb);have n7_:=mB aa hb;have n8_:=mB ab hb;have n9_:=mB ac hb;have aH:=bS HB hb;have aN:=aM (hbox);have aV:=aM ((by rw[hg];exact(below_size TB):w.heap.size≤ai));have bf:=aM ((by rw[hg];exact(below_size TB):w.heap.size≤ai));have aW:=aM ((by rw[hg];exact Nat.ne_of_lt (blk_lt (by have X_:=aa.out;exact TX)):ar≠ai));have a9:=aM ((by rw[hg];exact Nat.ne_of_gt (blk_lt (by have X_:=aa.out;exact TX)):ai≠ar));have a8:=aM ((by rw[hg];exact Nat.ne_of_lt (blk_lt (by have X_:=ab.out;exact TX)):gbq2≠ai));have n17_:=aM ((by rw[hg];exact Nat.ne_of_gt (blk_lt (by have X_:=ab.out;exact TX)):ai≠gbq2));have n18_:=aM ((by rw[hg];exact Nat.ne_of_lt (blk_lt (by have X_:=ac.out;exact TX)):gbq3≠ai));have n19_:=aM ((by rw[hg];exact Nat.ne_of_gt (blk_lt (by have X_:=ac.out;exact TX)):ai≠gbq3));clear ad;clear ae;clear ah;clear ag;clear aJ;clear aI;clear aA;clear aa;clear ab;clear ac;clear HB;have ad:=n0_;have ae:=n1_;have ah:=n2_;have ag:=n3_;have aJ:=n4_;have aI:=n5_;have aA:=n6_;have aa:=n7_;have ab:=n8_;have ac:=n9_;have HB:=aH;have af:=aN;have bm:=aV;have bl:=bf;have bg:=aW;have bh:=a9;have aY:=a8;have aQ:=n17_;have aR:=n18_;have aP:=n19_;clear n0_ n1_ n2_ n3_ n4_ n5_ n6_ n7_ n8_ n9_ aH aN aV bf aW a9 a8 n17_ n18_ n19_;clear hb hbox hg;refine hK.out _ _ (cJ6 ac.out (cK6 aa.out)) (fun hHeld=>?_);clear hK K;refine nR ?_;exact Yq35_1
         ·skip
          refine box_step ?hg (N:=12) ?hd (cs:=#[.slice none 0 0,.slice none 0 0,.int .i64 0,.int .i64 0,.int .i64 0,.slice none 0 0]) (t:=39) ?hr ?_;(case hd=>rfl);(case hg=>rfl);(case hr=>first|(go_simp;done)|(go_simp;rfl));intro ai hg wq8 hbox hb;have n0_:=mR ad hb;have n1_:=mR ae hb;have n2_:=aM (Kd.S_below (by have X_:=ah.out;exact TS) hb);have n3_:=mR ag hb;have n4_:=mB aa hb;have n5_:=mB ab hb;have n6_:=mB ac hb;have n7_:=bS HB hb;have n8_:=aM (hbox);have n9_:=aM ((by rw[hg];exact(below_size TB):w.heap.size≤ai));have aH:=aM ((by rw[hg];exact(below_size TB):w.heap.size≤ai));have aN:=aM ((by rw[hg];exact Nat.ne_of_lt (blk_lt (by have X_:=aa.out;exact TX)):ar≠ai));have aV:=aM ((by rw[hg];exact Nat.ne_of_gt (blk_lt (by have X_:=aa.out;exact TX)):ai≠ar));have bf:=aM ((by rw[hg];exact Nat.ne_of_lt (blk_lt (by have X_:=ab.out;exact TX)):gbq2≠ai));have aW:=aM ((by rw[hg];exact Nat.ne_of_gt (blk_lt (by have X_:=ab.out;exact TX)):ai≠gbq2));have a9:=aM ((by rw[hg];exact Nat.ne_of_lt (blk_lt (by have X_:=ac.out;exact TX)):gbq3≠ai));have a8:=aM ((by rw[hg];exact Nat.ne_of_gt (blk_lt (by have X_:=ac.out;exact TX)):ai≠gbq3));clear ad;clear ae;clear ah;clear ag;clear aa;clear ab;clear ac;clear HB;have ad:=n0_;have ae:=n1_;have ah:=n2_;have ag:=n3_;have aa:=n4_;have ab:=n5_;have ac:=n6_;have HB:=n7_;have af:=n8_;have bm:=n9_;have bl:=aH;have bg:=aN;have bh:=aV;have aY:=bf;have aQ:=aW;have aR:=a9;have aP:=a8;clear n0_ n1_ n2_ n3_ n4_ n5_ n6_ n7_ n8_ n9_ aH aN aV bf aW a9 a8;clear hb hbox hg;exact Yq35_0
        ·skip
         refine box_step ?hg (N:=12) ?hd (cs:=#[.slice none 0 0,.slice none 0 0,.int .i64 0,.int .i64 0,.int .i64 0,.slice none 0 0]) (t:=39) ?hr ?_;(case hd=>rfl);(case hg=>rfl);(case hr=>first|(go_simp;done)|(go_simp;rfl));intro ai hg wq7 hbox hb;have n0_:=mR ad hb;have n1_:=mR ae hb;have n2_:=aM (Kd.S_below (by have X_:=ah.out;exact TS) hb);have n3_:=mR ag hb;have n4_:=mB aa hb;have n5_:=mB ab hb;have n6_:=mB ac hb;have n7_:=bS HB hb;have n8_:=aM (hbox);have n9_:=aM ((by rw[hg];exact(below_size TB):w.heap.size≤ai));have aH:=aM ((by rw[hg];exact(below_size TB):w.heap.size≤ai));have aN:=aM ((by rw[hg];exact Nat.ne_of_lt (blk_lt (by have X_:=aa.out;exact TX)):ar≠ai));have aV:=aM ((by rw[hg];exact Nat.ne_of_gt (blk_lt (by have X_:=aa.out;exact TX)):ai≠ar));have bf:=aM ((by rw[hg];exact Nat.ne_of_lt (blk_lt (by have X_:=ab.out;exact TX)):gbq2≠ai));have aW:=aM ((by rw[hg];exact Nat.ne_of_gt (blk_lt (by have X_:=ab.out;exact TX)):ai≠gbq2));have a9:=aM ((by rw[hg];exact Nat.ne_of_lt (blk_lt (by have X_:=ac.out;exact TX)):gbq3≠ai));have a8:=aM ((by rw[hg];exact Nat.ne_of_gt (blk_lt (by have X_:=ac.out;exact TX)):ai≠gbq3));clear ad;clear ae;clear ah;clear ag;clear aa;clear ab;clear ac;clear HB;have ad:=n0_;have ae:=n1_;have ah:=n2_;have ag:=n3_;have aa:=n4_;have ab:=n5_;have ac:=n6_;have HB:=n7_;have af:=n8_;have bm:=n9_;have bl:=aH;have bg:=aN;have bh:=aV;have aY:=bf;have aQ:=aW;have aR:=a9;have aP:=a8;clear n0_ n1_ n2_ n3_ n4_ n5_ n6_ n7_ n8_ n9_ aH aN aV bf aW a9 a8;clear hb hbox hg;refine hK.out _ _ (cJ6 ac.out (cK6 aa.out)) (fun hHeld=>?_);clear hK K;refine nR ?_;refine pOe 2 (some 51) #[true,true,true,true,true,true,true,false,false,false,false,true,false,false] (fun K hK=>?_);refine gG Tryz.func39 #[.agg #[.slice aB am.length aE,.slice aD an.length aG,.int .i64 ao,.int .i64 aq,.int .i64 ap,.slice aF al.length aC]] ?_;with_reducible refine(impl_Spare.calls ?side1 ?side2 ?side3 ?side4 ?side5 ?side6 Aq4.out).mono ?_
         (case side1=>exact Zq35_7);(case side2=>exact bc.out);(case side3=>exact Zq35_8);(case side4=>exact aZ.out);(case side5=>exact Zq35_9);(case side6=>exact aX.out);rintro e wq8 ⟨rfl,hb⟩;refine⟨_,rfl,?_⟩;replace ad:=mR ad hb;replace ae:=mR ae hb;replace ah:=aM (Kd.S_below (by have X_:=ah.out;exact TS) hb);replace ag:=mR ag hb;replace aa:=mB aa hb;replace ab:=mB ab hb;replace ac:=mB ac hb;replace af:=mB af hb;replace HB:=bS HB hb;(try clear hb);(try clear hk);exact Yq35_0
       rintro⟨vq7,vq8,vq9,ai⟩ wq7 ⟨hS_,h0_,h1_,h2_,h3_,h4_,h5_,h6_,h7_,h8_,h9_,h10_,h11_,h12_,h13_,h14_,h15_,h16_,h17_,h18_,h19_⟩;clear ad ae ah ag aa ab ac HB;have ag:Aside0 (Kd.R (Kd.int .u8) 5 wq7 w.heap.size (fun k_=>some k_≠(vq7:Value).ownBlock∧some k_≠(vq8:Value).ownBlock∧some k_≠(.slice aw xq6.length ax:Value).ownBlock∧some k_≠(.slice au xq7.length av:Value).ownBlock) (.slice Aoq7 tq7.length coq7) tq7):=⟨h0_⟩;have aJ:Aside0 (Kd.R (Kd.int .u8) 5 wq7 w.heap.size (fun k_=>some k_≠(.slice Aoq7 tq7.length coq7:Value).ownBlock∧some k_≠(vq8:Value).ownBlock∧some k_≠(.slice aw xq6.length ax:Value).ownBlock∧some k_≠(.slice au xq7.length av:Value).ownBlock) vq7 tq9):=⟨h1_⟩;have aI:Aside0 (Kd.R (Kd.int .u8) 5 wq7 w.heap.size (fun k_=>some k_≠(.slice Aoq7 tq7.length coq7:Value).ownBlock∧some k_≠(vq7:Value).ownBlock∧some k_≠(.slice aw xq6.length ax:Value).ownBlock∧some k_≠(.slice au xq7.length av:Value).ownBlock) vq8 aT):=⟨h2_⟩;have aA:Aside0 (Kd.S k91 91 wq7 w.heap.size (fun k_=>some k_≠(.slice Aoq7 tq7.length coq7:Value).ownBlock∧some k_≠(vq7:Value).ownBlock∧some k_≠(vq8:Value).ownBlock∧some k_≠(.slice aw xq6.length ax:Value).ownBlock∧some k_≠(.slice au xq7.length av:Value).ownBlock∧some k_≠(.slice aO az.length aL:Value).ownBlock) vq9 aU):=⟨h3_⟩;have ad:Aside0 (Kd.R (Kd.int .u8) 5 wq7 w.heap.size (fun k_=>some k_≠(.slice Aoq7 tq7.length coq7:Value).ownBlock∧some k_≠(vq7:Value).ownBlock∧some k_≠(vq8:Value).ownBlock∧some k_≠(.slice au xq7.length av:Value).ownBlock) (.slice aw xq6.length ax) xq6):=⟨h4_⟩;have ae:Aside0 (Kd.R (Kd.int .u8) 5 wq7 w.heap.size (fun k_=>some k_≠(.slice Aoq7 tq7.length coq7:Value).ownBlock∧some k_≠(vq7:Value).ownBlock∧some k_≠(vq8:Value).ownBlock∧some k_≠(.slice aw xq6.length ax:Value).ownBlock) (.slice au xq7.length av) xq7):=⟨h5_⟩;have ah:Aside0 (Kd.S k91 91 wq7 w.heap.size (fun k_=>some k_≠(.slice Aoq7 tq7.length coq7:Value).ownBlock∧some k_≠(vq7:Value).ownBlock∧some k_≠(vq8:Value).ownBlock∧some k_≠(vq9:Value).ownBlock∧some k_≠(.slice aw xq6.length ax:Value).ownBlock∧some k_≠(.slice au xq7.length av:Value).ownBlock) (.slice aO az.length aL) az):=⟨h6_⟩;have aa:Aside0 (wq7.heap[ar]?=some (.cells #[.slice aB am.length aE,.slice aD an.length aG,.int .i64 ao,.int .i64 aq,.int .i64 ap,.slice aF al.length aC] 39 (0,0))):=⟨h7_⟩;have ab:Aside0 (wq7.heap[gbq2]?=some (.cells #[.slice none 0 0,.slice none 0 0,.int .i64 xq3,.int .i64 xq4,.int .i64 xq5,.slice none 0 0] 39 (0,0))):=⟨h8_⟩;have ac:Aside0 (wq7.heap[gbq3]?=some (.cells #[.slice aw xq6.length ax,.slice au xq7.length av,.int .i64 xq8,.int .i64 xq9,.int .i64 aK,.slice aO az.length aL] 39 (0,0))):=⟨h9_⟩;have af:Aside0 (wq7.heap[ai]?=some (.cells #[.slice none 0 0,.slice none 0 0,.int .i64 0,.int .i64 0,.int .i64 0,.slice none 0 0] 39 (0,0))):=⟨h10_⟩;have bm:Aside0 (w.heap.size≤ai):=⟨h11_⟩;have bl:Aside0 (w.heap.size≤ai):=⟨h12_⟩;have bg:Aside0 (ar≠ai):=⟨h13_⟩;have bh:Aside0 (ai≠ar):=⟨h14_⟩;have aY:Aside0 (gbq2≠ai):=⟨h15_⟩;have aQ:Aside0 (ai≠gbq2):=⟨h16_⟩;have aR:Aside0 (gbq3≠ai):=⟨h17_⟩;have aP:Aside0 (ai≠gbq3):=⟨h18_⟩;have HB:Aside0 (Below w.heap.size w wq7):=⟨h19_⟩;clear h0_ h1_ h2_ h3_ h4_ h5_ h6_ h7_ h8_ h9_ h10_ h11_ h12_ h13_ h14_ h15_ h16_ h17_ h18_ h19_;have hHeld:wq7.cell? ⟨gbq3,0,none⟩=some (.slice aw xq6.length ax)∧wq7.cell? ⟨gbq3,1,none⟩=some (.slice au xq7.length av)∧wq7.cell? ⟨gbq3,2,none⟩=some (.int .i64 xq8)∧wq7.cell? ⟨gbq3,3,none⟩=some (.int .i64 xq9)∧wq7.cell? ⟨gbq3,4,none⟩=some (.int .i64 aK)∧wq7.cell? ⟨gbq3,5,none⟩=some (.slice aO az.length aL)∧wq7.cell? ⟨ar,0,none⟩=some (.slice aB am.length aE)∧wq7.cell? ⟨ar,1,none⟩=some (.slice aD an.length aG)∧wq7.cell? ⟨ar,2,none⟩=some (.int .i64 ao)∧wq7.cell? ⟨ar,3,none⟩=some (.int .i64 aq)∧wq7.cell? ⟨ar,4,none⟩=some (.int .i64 ap)∧wq7.cell? ⟨ar,5,none⟩=some (.slice aF al.length aC):=hS_;obtain⟨Aoq8,coq8,eoq8⟩:=Kd.R_slice aJ.out;(first|subst eoq8|(injection eoq8 with f1_ f2_ f3_;have f4_:=f1_.symm;have f5_:=f3_.symm;clear f1_ f2_ f3_;subst f4_;subst f5_));obtain⟨Aoq9,coq9,eoq9⟩:=Kd.R_slice aI.out;(first|subst eoq9|(injection eoq9 with f1_ f2_ f3_;have f4_:=f1_.symm;have f5_:=f3_.symm;clear f1_ f2_ f3_;subst f4_;subst f5_));obtain⟨cQ,cR,cE⟩:=Kd.S_slice aA.out;(first|subst cE|(injection cE with f1_ f2_ f3_;have f4_:=f1_.symm;have f5_:=f3_.symm;clear f1_ f2_ f3_;subst f4_;subst f5_));refine norm_ (a':=?_) ?_ ?_;rotate_left
       ·simp only[putAll,Act.put,List.setIfInBounds_toArray,List.set_cons_zero,List.set_cons_succ];rfl
       refine pOe 12 none #[true,true,true,true,true,true,true,true,true,true,true,true,true,false] (fun K hK=>?_);have hsq1:wq7.cell? ⟨ai,0,none⟩=some (.slice none 0 0):=bC af 0;have hfsq1:=blk_frozen af.out 0;have hnsq1:=bg.out;have hnsq2:=aY.out;have hnsq3:=aR.out;have hmsq1:=bh.out;have hmsq2:=aQ.out;have hmsq3:=aP.out;have hsq2:wq7.cell? ⟨ai,1,none⟩=some (.slice none 0 0):=bC af 1;have hfsq2:=blk_frozen af.out 1;have hsq3:wq7.cell? ⟨ai,2,none⟩=some (.int .i64 0):=bC af 2;have hfsq3:=blk_frozen af.out 2;have hsq4:wq7.cell? ⟨ai,3,none⟩=some (.int .i64 0):=bC af 3;have hfsq4:=blk_frozen af.out 3;have hsq5:wq7.cell? ⟨ai,4,none⟩=some (.int .i64 0):=bC af 4;have hfsq5:=blk_frozen af.out 4;have hsq6:wq7.cell? ⟨ai,5,none⟩=some (.slice none 0 0):=bC af 5;have hfsq6:=blk_frozen af.out 5;refine skip_ (w1:=?_) (by rfl) rfl ?_ ?_;rotate_left
       ·go_simp;rfl
       refine hK.out _ _ ⟨(cf hHeld.1),(cf hHeld.2.1),(cf hHeld.2.2.1),(cf hHeld.2.2.2.1),(cf hHeld.2.2.2.2.1),(cf hHeld.2.2.2.2.2.1),(cf hHeld.2.2.2.2.2.2.1),(cf hHeld.2.2.2.2.2.2.2.1),(cf hHeld.2.2.2.2.2.2.2.2.1),(cf hHeld.2.2.2.2.2.2.2.2.2.1),(cf hHeld.2.2.2.2.2.2.2.2.2.2.1),(cf hHeld.2.2.2.2.2.2.2.2.2.2.2)⟩ (fun hHeld=>?_);clear hK K;refine pPe 13 (some 13) #[true,true,true,true,true,true,true,true,true,true,true,true,true,true] ?_;refine done_ (done_of HT_.out (by kernel_rfl)) ?_
       by_cases bP:bk=true
       ·subst bP;replace H:=ifT H;have H':=aM H;clear H;obtain⟨cJ,cD⟩:=oB bh;obtain⟨cK,cF⟩:=oB aQ;obtain⟨cI,cG⟩:=oB aP;obtain⟨b5,ca,bX,b9,b7,cc⟩:=cz6 af.out;obtain⟨b3,bY,cr,cy,cn,ct⟩:=fz6 af.out;obtain⟨hnbq7,hncq7⟩:=oB NBq4;obtain⟨hnbq8,hncq8⟩:=oB NBq6;obtain⟨b6,ci,cx,cu,ce,cj⟩:=cz6 ac.out;obtain⟨cb,co,bZ,cv,cm,cq⟩:=fz6 ac.out;try go_wp2
        go_roundg k2
        case measure=>have:=HJq1.out;have:=HKq1.out;omega
        case rel=>exact⟨(wrap64 (xq2+1)),(xq3),(xq4),(xq5),(tq9),(aT),(bb),(bd),(ba),(aU),(.slice Aoq8 tq9.length coq8),(.slice Aoq9 aT.length coq9),(.slice cQ aU.length cR),TF,H',⟨by have:=HJq1.out;have:=HKq1.out;omega⟩,⟨by (with_reducible repeat (first|apply Kd.R_alloc|apply Kd.R_drewN|apply Kd.R_drew));exact Kd.R_mono (RK2 (Kd.R_types (Kd.R_types aJ.out af.out (by decide)) ac.out (by decide))) (fun _ hk=>hk.1.1.2.1)⟩,⟨by (with_reducible repeat (first|apply Kd.R_alloc|apply Kd.R_drewN|apply Kd.R_drew));exact Kd.R_mono (RK2 (Kd.R_types (Kd.R_types aI.out af.out (by decide)) ac.out (by decide))) (fun _ hk=>hk.1.1.2.1)⟩,⟨by (with_reducible repeat (first|apply Kd.S_alloc|apply Kd.S_drewN|apply Kd.S_drew));exact Kd.S_mono (SK2 (Kd.S_types (Kd.S_types aA.out af.out (by decide)) ac.out (by decide))) (fun _ hk=>⟨hk.1.1.2.1,hk.1.1.2.2.1⟩)⟩,⟨(TZ aa)⟩,⟨(TZ ab)⟩,⟨(blk_put (blk_put (blk_put (blk_put (blk_put (blk_put (cs:=#[.slice aw xq6.length ax,.slice au xq7.length av,.int .i64 xq8,.int .i64 xq9,.int .i64 aK,.slice aO az.length aL]) (TZ ac) 0 _ rfl) 1 _ rfl) 2 _ rfl) 3 _ rfl) 4 _ rfl) 5 _ rfl)⟩,⟨TB⟩⟩
       ·replace bP:=b_F bP;subst bP;replace H:=ifF H;replace H:=bE H;obtain⟨⟨tq16,tq17,tq18,tq19,tq20,tq21⟩,Aq6,H⟩:=H;dsimp only at H;simp only[Option.some.injEq,Prod.mk.injEq] at H;obtain⟨rfl,rfl,rfl,rfl,rfl,rfl,rfl⟩:=H;obtain⟨cJ,cD⟩:=oB NBq1;obtain⟨cK,cF⟩:=oB NBq3;obtain⟨cI,cG⟩:=oB bg;obtain⟨b5,ca,bX,b9,b7,cc⟩:=cz6 aa.out;obtain⟨b3,bY,cr,cy,cn,ct⟩:=fz6 aa.out;try go_wp2_with (first|(refine g_C 40 ?_;refine gL (some 62) Tryz.func40 #[.agg #[.slice aB am.length aE,.slice aD an.length aG,.int .i64 ao,.int .i64 aq,.int .i64 ap,.slice aF al.length aC]] ?_;(with_reducible refine(impl_copyDisk.calls ?side1 ?side2 ?side3 ?side4 ?side5 ?side6 Aq6.out).mono ?_);(case side1=>exact Kd.C_below be.out TB);(case side2=>exact bc.out);(case side3=>exact Kd.C_below bj.out TB);(case side4=>exact aZ.out);(case side5=>exact Kd.C_below bi.out TB);(case side6=>exact aX.out);rintro e wq8 ⟨vq10,vq11,vq12,rfl,aj,ak,ay,hb⟩;refine⟨_,rfl,?_⟩;have HOq11:=aM (Kd.R_lower (Kd.R_new' (Kd.R_new' (Kd.R_new' (Kd.R_new' (Kd.R_new' aj (Kd.R_lt (TY ad af))) (Kd.R_lt (TY ae af))) (Kd.R_lt (TY ag af))) (Kd.R_lt (TY aJ af))) (Kd.R_lt (TY aI af))) (below_size TB));have HOq12:=aM (Kd.R_lower (Kd.R_new' (Kd.R_new' (Kd.R_new' (Kd.R_new' (Kd.R_new' ak (Kd.R_lt (TY ad af))) (Kd.R_lt (TY ae af))) (Kd.R_lt (TY ag af))) (Kd.R_lt (TY aJ af))) (Kd.R_lt (TY aI af))) (below_size TB));have HOq13:=aM (Kd.S_lower (Kd.S_new' (Kd.S_new' (Kd.S_new' (Kd.S_new' (Kd.S_new' (Kd.S_new' (Kd.S_new' ay (Kd.R_lt (TY ad af))) (Kd.R_lt (TY ae af))) (Kd.S_lt (by exact Zq35_11))) (Kd.R_lt (TY ag af))) (Kd.R_lt (TY aJ af))) (Kd.R_lt (TY aI af))) (Kd.S_lt (by exact Zq35_12))) (below_size TB));replace ad:=aM (Kd.R_mono (Kd.R_told (Kd.R_told (Kd.R_old (TY ad af) hb) (Kd.R_base aj)) (Kd.R_base ak)) (fun _ h_=>h_.1));replace ae:=aM (Kd.R_mono (Kd.R_told (Kd.R_told (Kd.R_old (TY ae af) hb) (Kd.R_base aj)) (Kd.R_base ak)) (fun _ h_=>h_.1));replace ah:=aM (Kd.S_mono (Kd.S_told (Kd.S_told (Kd.S_told (Kd.S_old (by exact Zq35_11) hb) (Kd.R_base aj)) (Kd.R_base ak)) (Kd.S_base ay)) (fun _ h_=>h_.1));replace ag:=aM (Kd.R_mono (Kd.R_told (Kd.R_told (Kd.R_old (TY ag af) hb) (Kd.R_base aj)) (Kd.R_base ak)) (fun _ h_=>h_.1));replace aJ:=aM (Kd.R_mono (Kd.R_told (Kd.R_told (Kd.R_old (TY aJ af) hb) (Kd.R_base aj)) (Kd.R_base ak)) (fun _ h_=>h_.1));replace aI:=aM (Kd.R_mono (Kd.R_told (Kd.R_told (Kd.R_old (TY aI af) hb) (Kd.R_base aj)) (Kd.R_base ak)) (fun _ h_=>h_.1));replace aA:=aM (Kd.S_mono (Kd.S_told (Kd.S_told (Kd.S_told (Kd.S_old (by exact Zq35_12) hb) (Kd.R_base aj)) (Kd.R_base ak)) (Kd.S_base ay)) (fun _ h_=>h_.1));replace aa:=mB aa hb;replace ab:=mB ab hb;replace ac:=mB ac hb;replace af:=aM (blk_below (g:=ai) (o:=.cells #[.slice Aoq8 tq9.length coq8,.slice Aoq9 aT.length coq9,.int .i64 bb,.int .i64 bd,.int .i64 ba,.slice cQ aU.length cR] 39 (0,0)) (blk_put (blk_put (blk_put (blk_put (blk_put (blk_put (cs:=#[.slice none 0 0,.slice none 0 0,.int .i64 0,.int .i64 0,.int .i64 0,.slice none 0 0]) (TZ af) 0 _ rfl) 1 _ rfl) 2 _ rfl) 3 _ rfl) 4 _ rfl) 5 _ rfl) hb);replace HB:=bS HB hb;clear aj ak ay hb;obtain⟨Aoq11,coq11,eoq11⟩:=Kd.R_slice HOq11.out;subst eoq11;obtain⟨hnbq7,hncq7⟩:=oB NBq5;obtain⟨hnbq8,hncq8⟩:=oB aY;obtain⟨b6,ci,cx,cu,ce,cj⟩:=cz6 ab.out;obtain⟨cb,co,bZ,cv,cm,cq⟩:=fz6 ab.out;obtain⟨Aoq12,coq12,eoq12⟩:=Kd.R_slice HOq12.out;subst eoq12;obtain⟨Aoq13,coq13,eoq13⟩:=Kd.S_slice HOq13.out;subst eoq13))
        refine bodyPost_ret (results_ct rfl _ _ gbq2 39 #[.slice Aoq11 tq16.length coq11,.slice Aoq12 tq17.length coq12,.int .i64 tq18,.int .i64 tq19,.int .i64 tq20,.slice Aoq13 tq21.length coq13] (0,0) _ rfl (blk_put (blk_put (blk_put (blk_put (blk_put (blk_put (cs:=#[.slice none 0 0,.slice none 0 0,.int .i64 xq3,.int .i64 xq4,.int .i64 xq5,.slice none 0 0]) (TZ ab) 0 _ rfl) 1 _ rfl) 2 _ rfl) 3 _ rfl) 4 _ rfl) 5 _ rfl) Tryz.underlying39 rfl (by kernel_rfl)) rfl ?_;exact⟨_,_,_,TE,by (with_reducible repeat (first|apply Kd.R_alloc|apply Kd.R_drewN|apply Kd.R_drew));exact Kd.R_mono (RK1 (Kd.R_types HOq11.out ab.out (by decide))) (fun _ hk=>hk.1.1.1.1.1.1),by (with_reducible repeat (first|apply Kd.R_alloc|apply Kd.R_drewN|apply Kd.R_drew));exact Kd.R_mono (RK1 (Kd.R_types HOq12.out ab.out (by decide))) (fun _ hk=>hk.1.1.1.1.1.1),by (with_reducible repeat (first|apply Kd.S_alloc|apply Kd.S_drewN|apply Kd.S_drew));exact Kd.S_mono (SK1 (Kd.S_types HOq13.out ab.out (by decide))) (fun _ hk=>⟨hk.1.1.1.1.1.1.1.1.1,hk.1.1.1.1.1.1.1.1.2⟩),TB⟩
      ·rw[if_neg bn] at H;have cq20:decide (xq2<bK)=false:=decide_eq_false bn;clear bn;simp only[Option.some.injEq,Prod.mk.injEq] at H;obtain⟨rfl,rfl,rfl,rfl,rfl,rfl,rfl⟩:=H;obtain⟨cJ,cD⟩:=oB NBq4;obtain⟨cK,cF⟩:=oB NBq6;obtain⟨b5,ca,bX,b9,b7,cc⟩:=cz6 ac.out;obtain⟨b3,bY,cr,cy,cn,ct⟩:=fz6 ac.out;obtain⟨aw,ax,cz⟩:=Kd.R_slice ad.out;subst cz;obtain⟨cI,cG⟩:=oB NBq2;obtain⟨b6,ci,cx,cu,ce,cj⟩:=cz6 ab.out;obtain⟨cb,co,bZ,cv,cm,cq⟩:=fz6 ab.out;obtain⟨au,av,cA⟩:=Kd.R_slice ae.out;subst cA;obtain⟨aO,aL,cC⟩:=Kd.S_slice ah.out;subst cC;go_wp2
       refine bodyPost_ret (results_ct rfl _ _ gbq2 39 #[.slice aw xq6.length ax,.slice au xq7.length av,.int .i64 xq8,.int .i64 xq9,.int .i64 aK,.slice aO az.length aL] (0,0) _ rfl (blk_put (blk_put (blk_put (blk_put (blk_put (blk_put (cs:=#[.slice none 0 0,.slice none 0 0,.int .i64 xq3,.int .i64 xq4,.int .i64 xq5,.slice none 0 0]) (TZ ab) 0 _ rfl) 1 _ rfl) 2 _ rfl) 3 _ rfl) 4 _ rfl) 5 _ rfl) Tryz.underlying39 rfl (by kernel_rfl)) rfl ?_;exact⟨_,_,_,TE,by (with_reducible repeat (first|apply Kd.R_alloc|apply Kd.R_drewN|apply Kd.R_drew));exact Kd.R_mono (RK1 (Kd.R_types ad.out ab.out (by decide))) (fun _ hk=>hk.1),by (with_reducible repeat (first|apply Kd.R_alloc|apply Kd.R_drewN|apply Kd.R_drew));exact Kd.R_mono (RK1 (Kd.R_types ae.out ab.out (by decide))) (fun _ hk=>hk.1),by (with_reducible repeat (first|apply Kd.S_alloc|apply Kd.S_drewN|apply Kd.S_drew));exact Kd.S_mono (SK1 (Kd.S_types ah.out ab.out (by decide))) (fun _ hk=>⟨hk.1.1,hk.1.2⟩),TB⟩
def impl_Sure_1.f (a:Int):Option (Bool):=some true
theorem impl_Sure_1.calls {a0:Int}{r:Bool}{w:World}(h:impl_Sure_1.f a0=some r):
    Calls Tryz.prog 72 #[.int .i64 a0] w fun e w'=>e=.returned (.bool r)∧Drawn0 w w':=by
  have H:=h
  clear h
  unfold impl_Sure_1.f at H
  obtain rfl:=o_I H
  go_enter Tryz.func72,Tryz.ntmps72
  go_wp2
  go_ret
  exact⟨by first|rfl|(simp;done)|(simp [*];done),TD⟩
def impl_Disk_perform.l0 :Nat→List Int→Int→Option (List Int)
  |0,_,_=>none
  |k+1,s,n=>if (s.length:Int)<n then (if s.length<140737488355328 then impl_Disk_perform.l0 k (s++[0]) n else none) else some s
/-- b laid over s from at_ on. -/
def cut_ (s:List Int)(at_:Int)(b:List Int):Option (List Int):=if 0≤at_∧at_+b.length≤s.length then some (s.take at_.toNat++b++s.drop (at_.toNat+b.length)) else none
theorem cut_some {s:List Int}{a:Int}{b l:List Int}(h:cut_ s a b=some l):0≤a∧a+b.length≤s.length∧l=s.take a.toNat++b++s.drop (a.toNat+b.length):=by
  unfold cut_ at h
  split at h
  · rename_i q
    exact⟨q.1,q.2,(Option.some.inj h).symm⟩
  · cases h
theorem impl_Disk_perform.case0 (k:Nat)(g:Nat)(vA vB vP:Value)(lA lB:List Int)(lP:List S91)(gen slt len:Int)(what at_:Int)(Ab:Option Addr)(cb:Nat)(lb:List Int)(rg rs rl:Int)(l1 l2:List Int)(w0 w:World)
    (hB:Below w0.heap.size w0 w) (hg:w0.heap.size≤g) (hG:w.heap[g]?=some (.cells #[vA,vB,.int .i64 gen,.int .i64 slt,.int .i64 len,vP] 39 (0,0))) (hD:Dsk w w0.heap.size vA vB vP lA lB lP)
    (hr:Kd.C (Kd.int .u8) w0 Ab lb.length lb) (hc:lb.length≤cb) (hw:¬what=2) (ho:impl_Disk_slot.f what 0=some ()) (h1:impl_Disk_perform.l0 k lA (wrap64 (at_+lb.length))=some l1) (h2:cut_ l1 at_ lb=some l2):
    Calls Tryz.prog 111 #[.pointer (some ⟨g,0,none⟩),.agg #[.int .i64 what,.int .i64 at_,.slice Ab lb.length cb,.int .i64 rg,.int .i64 rs,.int .i64 rl]] w fun e w'=>e=.returned (.tuple #[])∧∃v,w'.heap[g]?=some (.cells #[v,vB,.int .i64 gen,.int .i64 slt,.int .i64 len,vP] 39 (0,0))∧Dsk w' w0.heap.size v vB vP l2 lB lP∧Below w0.heap.size w0 w'∧Kept w w' (fun k=>k=g∨some k=vA.ownBlock):=by
  have hu91:=Tryz.underlying91
  have HB:=aM hB
  have HG:=aM hG
  have HD:=aM hD
  have HK:=aM (Kept.refl w (fun k=>k=g∨some k=vA.ownBlock))
  have HR:=aM hr
  have HC:=aM hc
  have HW:=aM hg
  have H1:=aM h1
  have H2:=aM h2
  have HO:=aM ho
  have c1:(what==2)=false:=beq_eq_false_iff_ne.mpr hw
  clear hB hG hD hr hc hg h1 h2 ho hw
  go_enter Tryz.func111,Tryz.ntmps111
  go_wp2_with (first|(refine g_D 3 ?_;refine gBx 3 #[.int .i64 what,.int .i64 at_,.slice Ab lb.length cb,.int .i64 rg,.int .i64 rs,.int .i64 rl] 91 ?_;intro gp hgp w2 hbox hb;have HP:=aM hbox;have HN:=aM (show g≠gp from fun e=>by have:=(Array.getElem?_eq_some_iff.1 HG.out).1;omega);have HS:=aM (show w.heap.size≤gp from by have:=HK.out.1;omega);replace HB:=aM (below_step HB.out hb);replace HG:=aM (blk_below HG.out hb);replace HD:=aM (HD.out.below hb);replace HK:=aM (HK.out.below hb);clear hb hbox hgp;obtain⟨hcz0,hcz1,hcz2,hcz3,hcz4,hcz5⟩:=cz6 HP.out)|(refine g_C 102 ?_;refine gL (some 16) Tryz.func102 #[.pointer (some ⟨g,0,none⟩),.int .i64 what] ?_;refine(impl_Disk_slot.calls _ HO.out).mono ?_;rintro e w3 ⟨rfl,hd⟩;refine⟨_,rfl,?_⟩;have hb:=hd.below;replace HB:=aM (below_step HB.out hb);replace HG:=aM (blk_below HG.out hb);replace HP:=aM (blk_below HP.out hb);replace HD:=aM (HD.out.below hb);replace HK:=aM (HK.out.below hb);clear hb hd))
  clear hcz0 hcz1 hcz2 hcz3 hcz4 hcz5
  go_loopg [17] k (fun kq v17 w'=>∃(v:Value) (x:List Int),Aside0 (impl_Disk_perform.l0 kq x (wrap64 (at_+lb.length))=some l1)∧Aside0 (kq≤k)∧Aside0 (w'.heap[g]?=some (.cells #[v,vB,.int .i64 gen,.int .i64 slt,.int .i64 len,vP] 39 (0,0)))∧Aside0 (w'.heap[gp]?=some (.cells #[.int .i64 what,.int .i64 at_,.slice Ab lb.length cb,.int .i64 rg,.int .i64 rs,.int .i64 rl] 91 (0,0)))∧Aside0 (Dsk w' w0.heap.size v vB vP x lB lP)∧Aside0 (v.ownBlock=vA.ownBlock∨∃b,v.ownBlock=some b∧w.heap.size≤b)∧Aside0 (Kept w w' (fun k=>k=g∨some k=vA.ownBlock))∧Aside0 (Below w0.heap.size w0 w'))
  case atStart=>exact⟨vA,lA,H1,⟨Nat.le_refl _⟩,HG,HP,HD,⟨.inl rfl⟩,HK,HB⟩
  case round=>
    clear H1 HG HP HD HK HB
    obtain⟨v,x,HA,HK1,HG,HP,HD,HV,HK,HB⟩:=hrel
    cases gk with
    |zero=>exact absurd HA.out (by simp [impl_Disk_perform.l0])
    | succ k1=>
      have H:=HA.out
      clear HA
      simp only[impl_Disk_perform.l0] at H
      obtain⟨hcz0,hcz1,hcz2,hcz3,hcz4,hcz5⟩:=cz6 HP.out
      obtain⟨hcy0,hcy1,hcy2,hcy3,hcy4,hcy5⟩:=cz6 HG.out
      obtain⟨A1,cA1,hv⟩:=Kd.R_slice HD.out.1
      subst hv
      by_cases c3:(x.length:Int)<wrap64 (at_+lb.length)
      · rw[if_pos c3] at H
        have c3b:decide ((x.length:Int)<wrap64 (at_+lb.length))=true:=decide_eq_true c3
        clear c3
        replace H:=ifN H
        obtain⟨c4,H⟩:=H
        have H':=aM H
        have LM:=aM c4
        clear H c4
        go_wp2_with (first|fail)
        go_quiet (fail)
        clear hcz0 hcz1 hcz2 hcz3 hcz4 hcz5 hcy0 hcy1 hcy2 hcy3 hcy4 hcy5
        generalize hw3:World.drewN _ _=w3
        have hb:=bdN hw3
        clear hw3
        replace HB:=aM (below_step HB.out hb)
        replace HG:=aM (blk_below HG.out hb)
        replace HP:=aM (blk_below HP.out hb)
        replace HD:=aM (HD.out.below hb)
        replace HK:=aM (HK.out.below hb)
        clear hb
        obtain⟨hcy0,hcy1,hcy2,hcy3,hcy4,hcy5⟩:=cz6 HG.out
        go_wp2_with (first|((with_reducible refine gate_builtin (b:=.append) (xs:=#[.tmp 31,.tmp 32]) rfl ?_);at_builtin;refine Kd.R_append (Kd.int .u8) (w0:=w0) w0.heap.size rfl (.tmp 31) (.tmp 32) 22 5 (.int .u8 0) 1 rfl Tryz.underlying22 info5 rfl (by decide) (by omega) (.slice A1 x.length cA1) x 0 [.int .u8 0] (fun k=>some k≠vB.ownBlock) (fun _=>False) rfl rfl rfl (fun _ hk=>hk.elim) (Kd.fresh' (Kd.R_lt HD.out.2.1)) HD.out.1 HB.out HB.out.size (by have:=LM.out;omega) ?_;intro v1 w4 ho hb hg hat;have hz:=HK.out.1;replace HK:=aM (Kept.of_grown hg HK.out (fun k e=>HV.out.elim (fun q=>.inl (.inr (e.symm.trans q))) (fun ⟨b,q1,q2⟩=>.inr (by have:=e.symm.trans q1;injection this;omega))));replace HV:=aM (own_then HV.out HK.out.1 hat hg hz);replace HG:=aM (blk_grown HG.out hg (Kd.R_ne HD.out.1 HG.out (by decide)));replace HP:=aM (blk_grown HP.out hg (Kd.R_ne HD.out.1 HP.out (by decide)));replace HD:=aM (Dsk.app HD.out hg hat ho);replace HB:=aM hb;clear ho hb hg hat hz;obtain⟨A2,cA2,hv2⟩:=Kd.R_slice HD.out.1;rw[List.length_append] at hv2;replace hv2:v1=.slice A2 (x.length+1) cA2:=hv2;subst hv2)|((with_reducible refine gate_store (t:=22) (p:=34) rfl ?_);go_loud (refine gSt [.slice A2 (x.length+1) cA2] #[.slice A2 (x.length+1) cA2,vB,.int .i64 gen,.int .i64 slt,.int .i64 len,vP] HG.out ?_);intro w5 hw hbox;replace HP:=aM ((hw.2.2 gp (fun e=>HN.out e.symm)).trans HP.out);replace HD:=aM (HD.out.off HG.out hw);replace HG:=aM hbox;replace HK:=aM (HK.out.then_ hw.kept (fun k e=>.inl (.inl e)));replace HB:=aM (hw.below HB.out HW.out);clear hw hbox))
        go_roundg k1
        case measure=>have:=HK1.out;omega
        case rel=>exact⟨_,_,H',⟨by have:=HK1.out;omega⟩,HG,HP,HD,HV,HK,HB⟩
      · rw[if_neg c3] at H
        have c3b:decide ((x.length:Int)<wrap64 (at_+lb.length))=false:=decide_eq_false c3
        clear c3
        obtain rfl:=o_I H
        clear H
        go_wp2_with (first|fail)
        go_quiet (fail)
        clear hcz0 hcz1 hcz2 hcz3 hcz4 hcz5 hcy0 hcy1 hcy2 hcy3 hcy4 hcy5
        generalize hw3:World.drewN _ _=w3
        have hb:=bdN hw3
        clear hw3
        replace HB:=aM (below_step HB.out hb)
        replace HG:=aM (blk_below HG.out hb)
        replace HP:=aM (blk_below HP.out hb)
        replace HD:=aM (HD.out.below hb)
        replace HK:=aM (HK.out.below hb)
        clear hb
        go_wp2_with (first|fail)
        go_wp2_with (first|fail)
        have hq:=cut_some H2.out
        obtain⟨q0,q1,q2⟩:=hq
        replace HB:=aM (below_drew1 HB.out)
        replace HG:=bD HG
        replace HP:=bD HP
        replace HD:=aM (HD.out.below (bd1 rfl))
        replace HK:=aM (HK.out.below (bd1 rfl))
        refine start_ (n:=9) (S:=fun w'=>w'.cell? ⟨g,0,none⟩=some (.slice A1 x.length cA1)∧w'.cell? ⟨gp,1,none⟩=some (.int .i64 at_)∧w'.cell? ⟨gp,2,none⟩=some (.slice Ab lb.length cb)) (ds:=[]) (Array.replicate 9 false) (by kernel_rfl) rfl rfl ⟨(blk_cell HG.out 0).trans rfl,(blk_cell HP.out 1).trans rfl,(blk_cell HP.out 2).trans rfl⟩ (fun hHeld=>?_)
        generalize hw4:World.drew _=w4 at HB HG HP HD HK hHeld ⊢
        clear hw4
        obtain⟨i0,hi0,hcutz⟩:=info_parts info5
        have hcut:=cut_from (P:=Tryz.prog) 22 5 .i64 Tryz.underlying22 hi0 1 hcutz.2.1 A1 x.length cA1 at_ q0 (by omega)
        refine ppq 0 35 ?_
        refine ppq 1 36 ?_
        refine ppq 3 38 ?_
        refine ppq 6 41 ?_
        refine ptq 2 37 ?_
        refine ptq 4 39 ?_
        refine ppq 5 40 ?_
        refine ptq 7 42 ?_
        refine poq 8 43 (fun K hK=>?_)
        refine gCp (h1:=fun _=>rfl) (0:Int) (.tmp 40) (.tmp 42) 22 5 Tryz.underlying22 (by kernel_rfl) (HD.out.1) (Kd.C_below HR.out HB.out) (k:=at_.toNat) (by omega) ?_ rfl rfl
        intro w5 hrw hz hsz hkeep
        have hne:=Kd.R_ne HD.out.1 HG.out (by decide)
        have hnp:=Kd.R_ne HD.out.1 HP.out (by decide)
        replace HG:=aM ((hkeep g hne).trans HG.out)
        replace HP:=aM ((hkeep gp hnp).trans HP.out)
        have HBK:=aM (show Below w0.heap.size w0 w5 from⟨hz.1.trans HB.out.os,hz.2.1.trans HB.out.tape,hz.2.2.trans HB.out.output,by rw[hsz];exact HB.out.size,fun j hj=>(hkeep j (fun e=>by have:=Kd.R_base HD.out.1 j e.symm;omega)).trans (HB.out.block j hj)⟩)
        replace HK:=aM (show Kept w w5 (fun k=>k=g∨some k=vA.ownBlock) from⟨by rw[hsz];exact HK.out.1,fun j hj hn=>(hkeep j (fun e=>HV.out.elim (fun q=>hn (.inr (e.trans q))) (fun ⟨b,q1,q2⟩=>by have:=e.trans q1;injection this;omega))).trans (HK.out.2 j hj hn)⟩)
        replace HD:=aM (Dsk.wr HD.out (fun k q=>hkeep k q) hrw)
        replace HB:=HBK
        rw[← q2] at HD
        clear hrw hz hsz hkeep hne hnp HBK
        refine hK.out _ _ ⟨(blk_cell HG.out 0).trans rfl,(blk_cell HP.out 1).trans rfl,(blk_cell HP.out 2).trans rfl⟩ (fun hHeld=>?_)
        clear hK K
        refine nR ?_
        refine done_ (by kernel_rfl) ?_
        go_end0
        exact⟨rfl,_,HG.out,HD.out,HB.out,HK.out⟩
theorem impl_Disk_perform.case1 (k:Nat)(g:Nat)(vA vB vP:Value)(lA lB:List Int)(lP:List S91)(gen slt len:Int)(what at_:Int)(Ab:Option Addr)(cb:Nat)(lb:List Int)(rg rs rl:Int)(l1 l2:List Int)(w0 w:World)
    (hB:Below w0.heap.size w0 w) (hg:w0.heap.size≤g) (hG:w.heap[g]?=some (.cells #[vA,vB,.int .i64 gen,.int .i64 slt,.int .i64 len,vP] 39 (0,0))) (hD:Dsk w w0.heap.size vA vB vP lA lB lP)
    (hr:Kd.C (Kd.int .u8) w0 Ab lb.length lb) (hc:lb.length≤cb) (hw:¬what=2) (ho:impl_Disk_slot.f what 1=some ()) (h1:impl_Disk_perform.l0 k lB (wrap64 (at_+lb.length))=some l1) (h2:cut_ l1 at_ lb=some l2):
    Calls Tryz.prog 111 #[.pointer (some ⟨g,0,none⟩),.agg #[.int .i64 what,.int .i64 at_,.slice Ab lb.length cb,.int .i64 rg,.int .i64 rs,.int .i64 rl]] w fun e w'=>e=.returned (.tuple #[])∧∃v,w'.heap[g]?=some (.cells #[vA,v,.int .i64 gen,.int .i64 slt,.int .i64 len,vP] 39 (0,0))∧Dsk w' w0.heap.size vA v vP lA l2 lP∧Below w0.heap.size w0 w'∧Kept w w' (fun k=>k=g∨some k=vB.ownBlock):=by
  have hu91:=Tryz.underlying91
  have HB:=aM hB
  have HG:=aM hG
  have HD:=aM hD
  have HK:=aM (Kept.refl w (fun k=>k=g∨some k=vB.ownBlock))
  have HR:=aM hr
  have HC:=aM hc
  have HW:=aM hg
  have H1:=aM h1
  have H2:=aM h2
  have HO:=aM ho
  have c1:(what==2)=false:=beq_eq_false_iff_ne.mpr hw
  clear hB hG hD hr hc hg h1 h2 ho hw
  go_enter Tryz.func111,Tryz.ntmps111
  go_wp2_with (first|(refine g_D 3 ?_;refine gBx 3 #[.int .i64 what,.int .i64 at_,.slice Ab lb.length cb,.int .i64 rg,.int .i64 rs,.int .i64 rl] 91 ?_;intro gp hgp w2 hbox hb;have HP:=aM hbox;have HN:=aM (show g≠gp from fun e=>by have:=(Array.getElem?_eq_some_iff.1 HG.out).1;omega);have HS:=aM (show w.heap.size≤gp from by have:=HK.out.1;omega);replace HB:=aM (below_step HB.out hb);replace HG:=aM (blk_below HG.out hb);replace HD:=aM (HD.out.below hb);replace HK:=aM (HK.out.below hb);clear hb hbox hgp;obtain⟨hcz0,hcz1,hcz2,hcz3,hcz4,hcz5⟩:=cz6 HP.out)|(refine g_C 102 ?_;refine gL (some 16) Tryz.func102 #[.pointer (some ⟨g,0,none⟩),.int .i64 what] ?_;refine(impl_Disk_slot.calls _ HO.out).mono ?_;rintro e w3 ⟨rfl,hd⟩;refine⟨_,rfl,?_⟩;have hb:=hd.below;replace HB:=aM (below_step HB.out hb);replace HG:=aM (blk_below HG.out hb);replace HP:=aM (blk_below HP.out hb);replace HD:=aM (HD.out.below hb);replace HK:=aM (HK.out.below hb);clear hb hd))
  clear hcz0 hcz1 hcz2 hcz3 hcz4 hcz5
  go_loopg [17] k (fun kq v17 w'=>∃(v:Value) (x:List Int),Aside0 (impl_Disk_perform.l0 kq x (wrap64 (at_+lb.length))=some l1)∧Aside0 (kq≤k)∧Aside0 (w'.heap[g]?=some (.cells #[vA,v,.int .i64 gen,.int .i64 slt,.int .i64 len,vP] 39 (0,0)))∧Aside0 (w'.heap[gp]?=some (.cells #[.int .i64 what,.int .i64 at_,.slice Ab lb.length cb,.int .i64 rg,.int .i64 rs,.int .i64 rl] 91 (0,0)))∧Aside0 (Dsk w' w0.heap.size vA v vP lA x lP)∧Aside0 (v.ownBlock=vB.ownBlock∨∃b,v.ownBlock=some b∧w.heap.size≤b)∧Aside0 (Kept w w' (fun k=>k=g∨some k=vB.ownBlock))∧Aside0 (Below w0.heap.size w0 w'))
  case atStart=>exact⟨vB,lB,H1,⟨Nat.le_refl _⟩,HG,HP,HD,⟨.inl rfl⟩,HK,HB⟩
  case round=>
    clear H1 HG HP HD HK HB
    obtain⟨v,x,HA,HK1,HG,HP,HD,HV,HK,HB⟩:=hrel
    cases gk with
    |zero=>exact absurd HA.out (by simp [impl_Disk_perform.l0])
    | succ k1=>
      have H:=HA.out
      clear HA
      simp only[impl_Disk_perform.l0] at H
      obtain⟨hcz0,hcz1,hcz2,hcz3,hcz4,hcz5⟩:=cz6 HP.out
      obtain⟨hcy0,hcy1,hcy2,hcy3,hcy4,hcy5⟩:=cz6 HG.out
      obtain⟨A1,cA1,hv⟩:=Kd.R_slice HD.out.2.1
      subst hv
      by_cases c3:(x.length:Int)<wrap64 (at_+lb.length)
      · rw[if_pos c3] at H
        have c3b:decide ((x.length:Int)<wrap64 (at_+lb.length))=true:=decide_eq_true c3
        clear c3
        replace H:=ifN H
        obtain⟨c4,H⟩:=H
        have H':=aM H
        have LM:=aM c4
        clear H c4
        go_wp2_with (first|fail)
        go_quiet (fail)
        clear hcz0 hcz1 hcz2 hcz3 hcz4 hcz5 hcy0 hcy1 hcy2 hcy3 hcy4 hcy5
        generalize hw3:World.drewN _ _=w3
        have hb:=bdN hw3
        clear hw3
        replace HB:=aM (below_step HB.out hb)
        replace HG:=aM (blk_below HG.out hb)
        replace HP:=aM (blk_below HP.out hb)
        replace HD:=aM (HD.out.below hb)
        replace HK:=aM (HK.out.below hb)
        clear hb
        obtain⟨hcy0,hcy1,hcy2,hcy3,hcy4,hcy5⟩:=cz6 HG.out
        go_wp2_with (first|((with_reducible refine gate_builtin (b:=.append) (xs:=#[.tmp 31,.tmp 32]) rfl ?_);at_builtin;refine Kd.R_append (Kd.int .u8) (w0:=w0) w0.heap.size rfl (.tmp 31) (.tmp 32) 22 5 (.int .u8 0) 1 rfl Tryz.underlying22 info5 rfl (by decide) (by omega) (.slice A1 x.length cA1) x 0 [.int .u8 0] (fun k=>some k≠vA.ownBlock) (fun _=>False) rfl rfl rfl (fun _ hk=>hk.elim) (Kd.fresh' (Kd.R_lt HD.out.1)) HD.out.2.1 HB.out HB.out.size (by have:=LM.out;omega) ?_;intro v1 w4 ho hb hg hat;have hz:=HK.out.1;replace HK:=aM (Kept.of_grown hg HK.out (fun k e=>HV.out.elim (fun q=>.inl (.inr (e.symm.trans q))) (fun ⟨b,q1,q2⟩=>.inr (by have:=e.symm.trans q1;injection this;omega))));replace HV:=aM (own_then HV.out HK.out.1 hat hg hz);replace HG:=aM (blk_grown HG.out hg (Kd.R_ne HD.out.2.1 HG.out (by decide)));replace HP:=aM (blk_grown HP.out hg (Kd.R_ne HD.out.2.1 HP.out (by decide)));replace HD:=aM (Dsk.app' HD.out hg hat ho);replace HB:=aM hb;clear ho hb hg hat hz;obtain⟨A2,cA2,hv2⟩:=Kd.R_slice HD.out.2.1;rw[List.length_append] at hv2;replace hv2:v1=.slice A2 (x.length+1) cA2:=hv2;subst hv2)|((with_reducible refine gate_store (t:=22) (p:=34) rfl ?_);go_loud (refine gSt [.slice A2 (x.length+1) cA2] #[vA,.slice A2 (x.length+1) cA2,.int .i64 gen,.int .i64 slt,.int .i64 len,vP] HG.out ?_);intro w5 hw hbox;replace HP:=aM ((hw.2.2 gp (fun e=>HN.out e.symm)).trans HP.out);replace HD:=aM (HD.out.off HG.out hw);replace HG:=aM hbox;replace HK:=aM (HK.out.then_ hw.kept (fun k e=>.inl (.inl e)));replace HB:=aM (hw.below HB.out HW.out);clear hw hbox))
        go_roundg k1
        case measure=>have:=HK1.out;omega
        case rel=>exact⟨_,_,H',⟨by have:=HK1.out;omega⟩,HG,HP,HD,HV,HK,HB⟩
      · rw[if_neg c3] at H
        have c3b:decide ((x.length:Int)<wrap64 (at_+lb.length))=false:=decide_eq_false c3
        clear c3
        obtain rfl:=o_I H
        clear H
        go_wp2_with (first|fail)
        go_quiet (fail)
        clear hcz0 hcz1 hcz2 hcz3 hcz4 hcz5 hcy0 hcy1 hcy2 hcy3 hcy4 hcy5
        generalize hw3:World.drewN _ _=w3
        have hb:=bdN hw3
        clear hw3
        replace HB:=aM (below_step HB.out hb)
        replace HG:=aM (blk_below HG.out hb)
        replace HP:=aM (blk_below HP.out hb)
        replace HD:=aM (HD.out.below hb)
        replace HK:=aM (HK.out.below hb)
        clear hb
        go_wp2_with (first|fail)
        go_wp2_with (first|fail)
        have hq:=cut_some H2.out
        obtain⟨q0,q1,q2⟩:=hq
        replace HB:=aM (below_drew1 HB.out)
        replace HG:=bD HG
        replace HP:=bD HP
        replace HD:=aM (HD.out.below (bd1 rfl))
        replace HK:=aM (HK.out.below (bd1 rfl))
        refine start_ (n:=9) (S:=fun w'=>w'.cell? ⟨g,1,none⟩=some (.slice A1 x.length cA1)∧w'.cell? ⟨gp,1,none⟩=some (.int .i64 at_)∧w'.cell? ⟨gp,2,none⟩=some (.slice Ab lb.length cb)) (ds:=[]) (Array.replicate 9 false) (by kernel_rfl) rfl rfl ⟨(blk_cell HG.out 1).trans rfl,(blk_cell HP.out 1).trans rfl,(blk_cell HP.out 2).trans rfl⟩ (fun hHeld=>?_)
        generalize hw4:World.drew _=w4 at HB HG HP HD HK hHeld ⊢
        clear hw4
        obtain⟨i0,hi0,hcutz⟩:=info_parts info5
        have hcut:=cut_from (P:=Tryz.prog) 22 5 .i64 Tryz.underlying22 hi0 1 hcutz.2.1 A1 x.length cA1 at_ q0 (by omega)
        refine ppq 0 35 ?_
        refine ppq 1 36 ?_
        refine ppq 3 38 ?_
        refine ppq 6 41 ?_
        refine ptq 2 37 ?_
        refine ptq 4 39 ?_
        refine ppq 5 40 ?_
        refine ptq 7 42 ?_
        refine poq 8 43 (fun K hK=>?_)
        refine gCp (h1:=fun _=>rfl) (0:Int) (.tmp 40) (.tmp 42) 22 5 Tryz.underlying22 (by kernel_rfl) (HD.out.2.1) (Kd.C_below HR.out HB.out) (k:=at_.toNat) (by omega) ?_ rfl rfl
        intro w5 hrw hz hsz hkeep
        have hne:=Kd.R_ne HD.out.2.1 HG.out (by decide)
        have hnp:=Kd.R_ne HD.out.2.1 HP.out (by decide)
        replace HG:=aM ((hkeep g hne).trans HG.out)
        replace HP:=aM ((hkeep gp hnp).trans HP.out)
        have HBK:=aM (show Below w0.heap.size w0 w5 from⟨hz.1.trans HB.out.os,hz.2.1.trans HB.out.tape,hz.2.2.trans HB.out.output,by rw[hsz];exact HB.out.size,fun j hj=>(hkeep j (fun e=>by have:=Kd.R_base HD.out.2.1 j e.symm;omega)).trans (HB.out.block j hj)⟩)
        replace HK:=aM (show Kept w w5 (fun k=>k=g∨some k=vB.ownBlock) from⟨by rw[hsz];exact HK.out.1,fun j hj hn=>(hkeep j (fun e=>HV.out.elim (fun q=>hn (.inr (e.trans q))) (fun ⟨b,q1,q2⟩=>by have:=e.trans q1;injection this;omega))).trans (HK.out.2 j hj hn)⟩)
        replace HD:=aM (Dsk.wr' HD.out (fun k q=>hkeep k q) hrw)
        replace HB:=HBK
        rw[← q2] at HD
        clear hrw hz hsz hkeep hne hnp HBK
        refine hK.out _ _ ⟨(blk_cell HG.out 1).trans rfl,(blk_cell HP.out 1).trans rfl,(blk_cell HP.out 2).trans rfl⟩ (fun hHeld=>?_)
        clear hK K
        refine nR ?_
        refine done_ (by kernel_rfl) ?_
        go_end0
        exact⟨rfl,_,HG.out,HD.out,HB.out,HK.out⟩
theorem impl_Disk_perform.case2 (g:Nat)(vA vB vP:Value)(lA lB:List Int)(lP:List S91)(gen slt len:Int)(what at_:Int)(Ab:Option Addr)(cb:Nat)(lb:List Int)(rg rs rl:Int)(w0 w:World)
    (hB:Below w0.heap.size w0 w) (hg:w0.heap.size≤g) (hG:w.heap[g]?=some (.cells #[vA,vB,.int .i64 gen,.int .i64 slt,.int .i64 len,vP] 39 (0,0))) (hD:Dsk w w0.heap.size vA vB vP lA lB lP) (hw:what=2):
    Calls Tryz.prog 111 #[.pointer (some ⟨g,0,none⟩),.agg #[.int .i64 what,.int .i64 at_,.slice Ab lb.length cb,.int .i64 rg,.int .i64 rs,.int .i64 rl]] w fun e w'=>e=.returned (.tuple #[])∧w'.heap[g]?=some (.cells #[vA,vB,.int .i64 rg,.int .i64 rs,.int .i64 rl,vP] 39 (0,0))∧Dsk w' w0.heap.size vA vB vP lA lB lP∧Below w0.heap.size w0 w'∧Kept w w' (fun k=>k=g):=by
  have hu91:=Tryz.underlying91
  have hu36:=Tryz.underlying36
  have HB:=aM hB
  have HG:=aM hG
  have HD:=aM hD
  have HK:=aM (Kept.refl w (fun k=>k=g))
  have HW:=aM hg
  have c1:(what==2)=true:=beq_iff_eq.mpr hw
  clear hB hG hD hg hw
  go_enter Tryz.func111,Tryz.ntmps111
  go_wp2_with (first|(refine g_D 3 ?_;refine gBx 3 #[.int .i64 what,.int .i64 at_,.slice Ab lb.length cb,.int .i64 rg,.int .i64 rs,.int .i64 rl] 91 ?_;intro gp hgp w2 hbox hb;have HP:=aM hbox;replace HB:=aM (below_step HB.out hb);replace HG:=aM (blk_below HG.out hb);replace HD:=aM (HD.out.below hb);replace HK:=aM (HK.out.below hb);clear hb hbox hgp;obtain⟨hcz0,hcz1,hcz2,hcz3,hcz4,hcz5⟩:=cz6 HP.out)|((with_reducible refine gate_store (t:=36) (p:=12) rfl ?_);refine gSt [.int .i64 rg,.int .i64 rs,.int .i64 rl] #[vA,vB,.int .i64 rg,.int .i64 rs,.int .i64 rl,vP] HG.out ?_;intro w5 hw hbox;replace HD:=aM (HD.out.off HG.out hw);replace HG:=aM hbox;replace HK:=aM (HK.out.then_ hw.kept (fun k e=>.inl e));replace HB:=aM (hw.below HB.out HW.out);clear hw hbox hcz0 hcz1 hcz2 hcz3 hcz4 hcz5))
  refine bodyPost_ret (results_none rfl _ _ _) rfl ?_
  exact⟨rfl,HG.out,HD.out,HB.out,HK.out⟩
def impl_Disk_perform.f (k:Nat)(lA lB:List Int)(gen slt len:Int)(what at_:Int)(lb:List Int)(rg rs rl:Int):Option (List Int×List Int×Int×Int×Int):=
  if what=2 then some (lA,lB,rg,rs,rl) else if what=0 then (impl_Disk_perform.l0 k lA (wrap64 (at_+lb.length))).bind fun x=>(cut_ x at_ lb).bind fun y=>some (y,lB,gen,slt,len)
    else (impl_Disk_perform.l0 k lB (wrap64 (at_+lb.length))).bind fun x=>(cut_ x at_ lb).bind fun y=>some (lA,y,gen,slt,len)
theorem impl_Disk_perform.mono_l :∀k s n,LeO (impl_Disk_perform.l0 k s n) (impl_Disk_perform.l0 (k+1) s n)
  |0=>fun _ _ r h=>by simp [impl_Disk_perform.l0] at h
  | k+1=>by
    have ih0:=impl_Disk_perform.mono_l k
    intro y0 y1
    unfold impl_Disk_perform.l0
    exact LM
theorem impl_Disk_perform.mono :∀b c d e f g h i j l a k,LeO (impl_Disk_perform.f k b c d e f g h i j l a) (impl_Disk_perform.f (k+1) b c d e f g h i j l a):=by
  intro a0 a1 a2 a3 a4 a5 a6 a7 a8 a9 a10 k;have ih0:=impl_Disk_perform.mono_l k;unfold impl_Disk_perform.f;exact LM
theorem impl_Disk_perform.calls {k:Nat}{g:Nat}(vA vB vP:Value){lA lB:List Int}(lP:List S91){gen slt len:Int}{what at_:Int}{Ab:Option Addr}{cb:Nat}{lb:List Int}{rg rs rl:Int}{r1 r2:List Int}{r3 r4 r5:Int}(w0 w:World)
  (hB:Below w0.heap.size w0 w) (hg:w0.heap.size≤g) (hG:w.heap[g]?=some (.cells #[vA,vB,.int .i64 gen,.int .i64 slt,.int .i64 len,vP] 39 (0,0))) (hD:Dsk w w0.heap.size vA vB vP lA lB lP)
  (hr:Kd.C (Kd.int .u8) w0 Ab lb.length lb) (hc:lb.length≤cb) (h:impl_Disk_perform.f k lA lB gen slt len what at_ lb rg rs rl=some (r1,r2,r3,r4,r5)):
  Calls Tryz.prog 111 #[.pointer (some ⟨g,0,none⟩),.agg #[.int .i64 what,.int .i64 at_,.slice Ab lb.length cb,.int .i64 rg,.int .i64 rs,.int .i64 rl]] w fun e w'=>e=.returned (.tuple #[])∧∃v1 v2,w'.heap[g]?=some (.cells #[v1,v2,.int .i64 r3,.int .i64 r4,.int .i64 r5,vP] 39 (0,0))∧Dsk w' w0.heap.size v1 v2 vP r1 r2 lP∧Below w0.heap.size w0 w'∧Kept w w' (fun k=>k=g∨some k=vA.ownBlock∨some k=vB.ownBlock):=by
 unfold impl_Disk_perform.f at h
 by_cases c1:what=2
 ·rw[if_pos c1] at h;obtain⟨rfl,rfl,rfl,rfl,rfl⟩:lA=r1∧lB=r2∧rg=r3∧rs=r4∧rl=r5:=by simpa using h
  refine(impl_Disk_perform.case2 g vA vB vP lA lB lP gen slt len what at_ Ab cb lb rg rs rl w0 w hB hg hG hD c1).mono ?_;rintro e w' ⟨rfl,h1,h2,hq1,hq2⟩;exact⟨rfl,_,_,h1,h2,hq1,hq2.mono (fun k q=>.inl q)⟩
 ·rw[if_neg c1] at h
  by_cases cq1:what=0
  ·rw[if_pos cq1] at h;obtain⟨x,h1,h⟩:=bE h;obtain⟨y,h2,h⟩:=bE h;obtain⟨rfl,rfl,rfl,rfl,rfl⟩:y=r1∧lB=r2∧gen=r3∧slt=r4∧len=r5:=by simpa using h
   refine(impl_Disk_perform.case0 k g vA vB vP lA lB lP gen slt len what at_ Ab cb lb rg rs rl x y w0 w hB hg hG hD hr hc c1 (by unfold impl_Disk_slot.f;simp [cq1]) h1.out h2.out).mono ?_;rintro e w' ⟨rfl,v,q1,q2,qq1,qq2⟩;exact⟨rfl,_,_,q1,q2,qq1,qq2.mono (fun k q=>q.imp_right .inl)⟩
  ·rw[if_neg cq1] at h;obtain⟨x,h1,h⟩:=bE h;obtain⟨y,h2,h⟩:=bE h;obtain⟨rfl,rfl,rfl,rfl,rfl⟩:lA=r1∧y=r2∧gen=r3∧slt=r4∧len=r5:=by simpa using h
   refine(impl_Disk_perform.case1 k g vA vB vP lA lB lP gen slt len what at_ Ab cb lb rg rs rl x y w0 w hB hg hG hD hr hc c1 (by unfold impl_Disk_slot.f;simp [cq1]) h1.out h2.out).mono ?_;rintro e w' ⟨rfl,v,q1,q2,qq1,qq2⟩;exact⟨rfl,_,_,q1,q2,qq1,qq2.mono (fun k q=>q.imp_right .inr)⟩
end Go.Proofs.YtjgmkkogmfogbaaGreat.Q
