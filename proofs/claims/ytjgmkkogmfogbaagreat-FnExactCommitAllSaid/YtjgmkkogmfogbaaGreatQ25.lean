/- Functions of the program as plain Lean functions, and that a call of each comes to what its function tells. -/
import Derived.Test.YtjgmkkogmfogbaaGreatQ5
import Derived.Test.YtjgmkkogmfogbaaGreatQ1
import Derived.Test.YtjgmkkogmfogbaaGreatQ20
import Derived.Test.YtjgmkkogmfogbaaGreatQ42
set_option maxHeartbeats 40000000
set_option maxRecDepth 100000
namespace Go.Proofs.YtjgmkkogmfogbaaGreat.Q
open Go.RowKit Go.Proofs.YtjgmkkogmfogbaaGreatW.PrintWords Go.Proofs.YtjgmkkogmfogbaaGreatW.PrintLast Go.Proofs.YtjgmkkogmfogbaaGreatW.PrintMore
attribute [local go_sem] min2_int min_two
set_option linter.unusedVariables false
set_option linter.unusedSimpArgs false
def spec_CommitAll.l0 :Nat→Int→Int→Int→Int→Int→List (S96)→Int→List Int→List Int→List Int→Int→Int→Int→List (S91)→Option (List Int×List Int×Int×Int×Int×(List (S91)))
  |0,_,_,_,_,_,_,_,_,_,_,_,_,_,_=>none
  |k+1,p,o,b,c,d,e,f,g,h,i,j,l,m,n=>if o<4 then ((spec_NextCommit.f k h i j l m n b c d e f g p).bind fun a=>(spec_CommitAll.l0 k a.2.2.2.2.2.2 (wrap64 (o+1)) b c d e f g a.1 a.2.1 a.2.2.1 a.2.2.2.1 a.2.2.2.2.1 a.2.2.2.2.2.1)) else (some (h,i,j,l,m,n))
def spec_CommitAll.f (k:Nat)(b:List Int)(c:List Int)(d:Int)(e:Int)(f:Int)(g:List (S91))(h:Int)(i:Int)(j:Int)(l:List (S96))(m:Int)(n:List Int):Option (List Int×List Int×Int×Int×Int×(List (S91))):=(spec_l9Copy.f k b c d e f g).bind fun a=>(spec_CommitAll.l0 k 1 0 h i j l m n a.1 a.2.1 a.2.2.1 a.2.2.2.1 a.2.2.2.2.1 a.2.2.2.2.2)
theorem spec_CommitAll.mono_l :∀k,(∀e f g h i j l m n o a b c d,LeO (spec_CommitAll.l0 k e f g h i j l m n o a b c d) (spec_CommitAll.l0 (k+1) e f g h i j l m n o a b c d))
  |0=>fun _ _ _ _ _ _ _ _ _ _ _ _ _ _ r h=>by simp [spec_CommitAll.l0] at h
  | k+1=>by
    have m0_:=@spec_NextCommit.mono
    have m1_:=@spec_l9Copy.mono
    have ih0:=spec_CommitAll.mono_l k
    · intro y0 y1 y2 y3 y4 y5 y6 y7 y8 y9 y10 y11 y12 y13
      unfold spec_CommitAll.l0
      exact LM
theorem spec_CommitAll.mono :∀c d e f g h i j l m a b k,LeO (spec_CommitAll.f k c d e f g h i j l m a b) (spec_CommitAll.f (k+1) c d e f g h i j l m a b):=by
  intro a0 a1 a2 a3 a4 a5 a6 a7 a8 a9 a10 a11 k;have m0_:=@spec_NextCommit.mono;have m1_:=@spec_l9Copy.mono;have ih0:=spec_CommitAll.mono_l k;unfold spec_CommitAll.f;exact LM
theorem spec_CommitAll.calls {k:Nat}{ay:Option Addr}{aA:Nat}{al:List Int}{aC:Option Addr}{aG:Nat}{am:List Int}{au:Int}{aw:Int}{ar:Int}{aF:Option Addr}{aE:Nat}{ak:List (S91)}{aq:Int}{ap:Int}{an:Int}{aD:Option Addr}{aB:Nat}{ai:List (S96)}{ao:Int}{ax:Option Addr}{az:Nat}{aj:List Int}{r1:List Int}{r2:List Int}{r3:Int}{r4:Int}{r5:Int}{r6:List (S91)}{w:World}(aZ:Kd.C (Kd.int .u8) w ay al.length al)(aY:al.length≤aA)(ba:Kd.C (Kd.int .u8) w aC am.length am)(aS:am.length≤aG)(aU:Kd.C k91 w aF ak.length ak)(aX:ak.length≤aE)(aT:Kd.C k96 w aD ai.length ai)(bb:ai.length≤aB)(aW:Kd.C (Kd.int .u8) w ax aj.length aj)(aV:aj.length≤az)(h:spec_CommitAll.f k al am au aw ar ak aq ap an ai ao aj=some (r1,r2,r3,r4,r5,r6)):
  Calls Tryz.prog 20 #[.agg #[.slice ay al.length aA,.slice aC am.length aG,.int .i64 au,.int .i64 aw,.int .i64 ar,.slice aF ak.length aE],.agg #[.int .i64 aq,.int .i64 ap,.int .i64 an,.slice aD ai.length aB],.agg #[.int .i64 ao,.slice ax aj.length az]] w fun e w'=>∃v0_ v1_ v5_:Value,e=.returned (.agg #[v0_,v1_,.int .i64 r3,.int .i64 r4,.int .i64 r5,v5_])∧Kd.R (Kd.int .u8) 5 w' w.heap.size (fun k_=>some k_≠(v1_:Value).ownBlock) v0_ r1∧Kd.R (Kd.int .u8) 5 w' w.heap.size (fun k_=>some k_≠(v0_:Value).ownBlock) v1_ r2∧Kd.S k91 91 w' w.heap.size (fun k_=>some k_≠(v0_:Value).ownBlock∧some k_≠(v1_:Value).ownBlock) v5_ r6∧Below w.heap.size w w':=by
 have huq1:=Tryz.underlying39;have huq2:=Tryz.underlying45;have huq3:=Tryz.underlying47;have HRq1:=aM aZ;have HCq1:=aM aY;clear aZ aY;have HRq2:=aM ba;have HCq2:=aM aS;clear ba aS;have HRq3:=aM aU;have HCq3:=aM aX;clear aU aX;have HRq4:=aM aT;have HCq4:=aM bb;clear aT bb;have HRq5:=aM aW;have HCq5:=aM aV;clear aW aV;have HB:=aM (Below.refl w.heap.size w);have H:=h;clear h;unfold spec_CommitAll.f at H;replace H:=bE H;obtain⟨⟨tq1,tq2,tq3,tq4,tq5,tq6⟩,Aq1,H⟩:=H;dsimp only at H;have H':=aM H;clear H;go_enter Tryz.func20,Tryz.ntmps20;go_wp2_with (first|(refine g_D 3 ?_;refine gBx 3 #[.slice ay al.length aA,.slice aC am.length aG,.int .i64 au,.int .i64 aw,.int .i64 ar,.slice aF ak.length aE] 39 ?_;intro gbq1 hg wq1 hbox hb;have aa:=aM (hbox);have GWq1:=gW HB hg;have GEq1:=gW HB hg;replace HB:=bS HB hb;clear hb hbox hg)|(refine g_D 4 ?_;refine gBx 4 #[.int .i64 aq,.int .i64 ap,.int .i64 an,.slice aD ai.length aB] 45 ?_;intro gbq2 hg wq2 hbox hb;have ac:=aM (hbox);have GWq2:=gW HB hg;have GEq2:=gW HB hg;obtain⟨NBq1,NBq2⟩:=nB aa hg;replace aa:=mB aa hb;replace HB:=bS HB hb;clear hb hbox hg)|(refine g_D 5 ?_;refine gBx 5 #[.int .i64 ao,.slice ax aj.length az] 47 ?_;intro gbq3 hg wq3 hbox hb;have ae:=aM (hbox);have GWq3:=gW HB hg;have GEq3:=gW HB hg;obtain⟨NBq3,NBq4⟩:=nB aa hg;obtain⟨NBq5,NBq6⟩:=nB ac hg;replace aa:=mB aa hb;replace ac:=mB ac hb;replace HB:=bS HB hb;clear hb hbox hg)|(refine g_D 6 ?_;refine gBx 6 #[.slice none 0 0,.slice none 0 0,.int .i64 0,.int .i64 0,.int .i64 0,.slice none 0 0] 39 ?_;intro gbq4 hg wq4 hbox hb;have ad:=aM (hbox);have GWq4:=gW HB hg;have GEq4:=gW HB hg;obtain⟨NBq7,NBq8⟩:=nB aa hg;obtain⟨NBq9,NBq10⟩:=nB ac hg;obtain⟨NBq11,NBq12⟩:=nB ae hg;replace aa:=mB aa hb;replace ac:=mB ac hb;replace ae:=mB ae hb;replace HB:=bS HB hb;clear hb hbox hg;obtain⟨hnbq1,hncq1⟩:=oB NBq1;obtain⟨hnbq2,hncq2⟩:=oB NBq3;obtain⟨hnbq3,hncq3⟩:=oB NBq7;obtain⟨hczq1,hczq2,hczq3,hczq4,hczq5,hczq6⟩:=cz6 aa.out;obtain⟨hfzq1,hfzq2,hfzq3,hfzq4,hfzq5,hfzq6⟩:=fz6 aa.out)|(refine g_C 30 ?_;refine gL (some 13) Tryz.func30 #[.agg #[.slice ay al.length aA,.slice aC am.length aG,.int .i64 au,.int .i64 aw,.int .i64 ar,.slice aF ak.length aE]] ?_;(with_reducible refine(spec_l9Copy.calls ?side1 ?side2 ?side3 ?side4 ?side5 ?side6 Aq1.out).mono ?_);(case side1=>have X_:=(Kd.C_below HRq1.out HB.out);exact TC);(case side2=>exact HCq1.out);(case side3=>have X_:=(Kd.C_below HRq2.out HB.out);exact TC);(case side4=>exact HCq2.out);(case side5=>have X_:=(Kd.C_below HRq3.out HB.out);exact TC);(case side6=>exact HCq3.out);rintro e wq5 ⟨vq1,vq2,vq3,rfl,hoq1,hoq2,hoq3,hb⟩;refine⟨_,rfl,?_⟩;have HOq1:=aM (Kd.R_lower hoq1 (below_size TB));have HOq2:=aM (Kd.R_lower hoq2 (below_size TB));have HOq3:=aM (Kd.S_lower hoq3 (below_size TB));replace aa:=mB aa hb;replace ac:=mB ac hb;replace ae:=mB ae hb;replace ad:=mB ad hb;replace HB:=bS HB hb;clear hoq1 hoq2 hoq3 hb)|(refine g_D 8 ?_;refine gBx 8 #[.slice none 0 0,.slice none 0 0,.int .i64 0,.int .i64 0,.int .i64 0,.slice none 0 0] 39 ?_;intro gbq5 hg wq6 hbox hb;have ab:=aM (hbox);have GWq5:=gW HB hg;have GEq5:=gW HB hg;obtain⟨NBq13,NBq14⟩:=nB aa hg;obtain⟨NBq15,NBq16⟩:=nB ac hg;obtain⟨NBq17,NBq18⟩:=nB ae hg;obtain⟨NBq19,NBq20⟩:=nB ad hg;replace HOq1:=mR HOq1 hb;replace HOq2:=mR HOq2 hb;replace HOq3:=aM (Kd.S_below (by have X_:=HOq3.out;exact TS) hb);replace aa:=mB aa hb;replace ac:=mB ac hb;replace ae:=mB ae hb;replace ad:=mB ad hb;replace HB:=bS HB hb;clear hb hbox hg;obtain⟨Aoq1,coq1,eoq1⟩:=Kd.R_slice HOq1.out;subst eoq1;obtain⟨hnbq4,hncq4⟩:=oB NBq14;obtain⟨hnbq5,hncq5⟩:=oB NBq16;obtain⟨hnbq6,hncq6⟩:=oB NBq18;obtain⟨hnbq7,hncq7⟩:=oB NBq20;obtain⟨hczq7,hczq8,hczq9,bh,bt,bi⟩:=cz6 ab.out;obtain⟨hfzq7,hfzq8,hfzq9,bp,bM,bc⟩:=fz6 ab.out;obtain⟨Aoq2,coq2,eoq2⟩:=Kd.R_slice HOq2.out;subst eoq2;obtain⟨Aoq3,coq3,eoq3⟩:=Kd.S_slice HOq3.out;subst eoq3))
 go_loopg [7,9] k (fun kq vq4 vq5 w'=>∃(xq1:Int) (xq2:Int) (xq3:List Int) (xq4:List Int) (xq5:Int) (xq6:Int) (xq7:Int) (xq8:List (S91)) (uq1:Value) (uq2:Value) (uq3:Value),vq4=.int .i64 xq1∧vq5=.int .i64 xq2∧Aside0 (spec_CommitAll.l0 kq xq1 xq2 aq ap an ai ao aj xq3 xq4 xq5 xq6 xq7 xq8=some (r1,r2,r3,r4,r5,r6))∧Aside0 (kq≤k)∧Aside0 (Kd.R (Kd.int .u8) 5 w' w.heap.size (fun k_=>some k_≠(uq2:Value).ownBlock) uq1 xq3)∧Aside0 (Kd.R (Kd.int .u8) 5 w' w.heap.size (fun k_=>some k_≠(uq1:Value).ownBlock) uq2 xq4)∧Aside0 (Kd.S k91 91 w' w.heap.size (fun k_=>some k_≠(uq1:Value).ownBlock∧some k_≠(uq2:Value).ownBlock) uq3 xq8)∧Aside0 (w'.heap[gbq1]?=some (.cells #[(.slice ay al.length aA),(.slice aC am.length aG),.int .i64 au,.int .i64 aw,.int .i64 ar,(.slice aF ak.length aE)] 39 (0,0)))∧Aside0 (w'.heap[gbq2]?=some (.cells #[.int .i64 aq,.int .i64 ap,.int .i64 an,(.slice aD ai.length aB)] 45 (0,0)))∧Aside0 (w'.heap[gbq3]?=some (.cells #[.int .i64 ao,(.slice ax aj.length az)] 47 (0,0)))∧Aside0 (w'.heap[gbq4]?=some (.cells #[(.slice none 0 0),(.slice none 0 0),.int .i64 0,.int .i64 0,.int .i64 0,(.slice none 0 0)] 39 (0,0)))∧Aside0 (w'.heap[gbq5]?=some (.cells #[uq1,uq2,.int .i64 xq5,.int .i64 xq6,.int .i64 xq7,uq3] 39 (0,0)))∧Aside0 (Below w.heap.size w w'))
 case atStart=>exact⟨(1),(0),(tq1),(tq2),(tq3),(tq4),(tq5),(tq6),(.slice Aoq1 tq1.length coq1),(.slice Aoq2 tq2.length coq2),(.slice Aoq3 tq6.length coq3),TF,TF,H',⟨Nat.le_refl _⟩,⟨by (with_reducible repeat (first|apply Kd.R_alloc|apply Kd.R_drewN|apply Kd.R_drew));exact Kd.R_mono (RK1 (Kd.R_types HOq1.out ab.out (by decide))) (fun _ hk=>hk.1)⟩,⟨by (with_reducible repeat (first|apply Kd.R_alloc|apply Kd.R_drewN|apply Kd.R_drew));exact Kd.R_mono (RK1 (Kd.R_types HOq2.out ab.out (by decide))) (fun _ hk=>hk.1)⟩,⟨by (with_reducible repeat (first|apply Kd.S_alloc|apply Kd.S_drewN|apply Kd.S_drew));exact Kd.S_mono (SK1 (Kd.S_types HOq3.out ab.out (by decide))) (fun _ hk=>⟨hk.1.1,hk.1.2⟩)⟩,⟨(TZ aa)⟩,⟨(TZ ac)⟩,⟨(TZ ae)⟩,⟨(TZ ad)⟩,⟨(blk_put (blk_put (blk_put (blk_put (blk_put (blk_put (cs:=#[.slice none 0 0,.slice none 0 0,.int .i64 0,.int .i64 0,.int .i64 0,.slice none 0 0]) (TZ ab) 0 _ rfl) 1 _ rfl) 2 _ rfl) 3 _ rfl) 4 _ rfl) 5 _ rfl)⟩,⟨TB⟩⟩
 case round=>
  clear H';try clear hczq1
  try clear hczq2
  try clear hczq3
  try clear hczq4
  try clear hczq5
  try clear hczq6
  try clear hczq7
  try clear hczq8
  try clear hczq9
  try clear bh
  try clear bt
  try clear bi
  try clear hfzq1
  try clear hfzq2
  try clear hfzq3
  try clear hfzq4
  try clear hfzq5
  try clear hfzq6
  try clear hfzq7
  try clear hfzq8
  try clear hfzq9
  try clear bp
  try clear bM
  try clear bc
  obtain⟨xq1,xq2,xq3,xq4,xq5,xq6,xq7,xq8,uq1,uq2,uq3,rfl,rfl,HA,HKq1,ag,af,ah,aa,ac,ae,ad,ab,HB⟩:=hrel;cases gk with
  |zero=>exact absurd HA.out (by simp [spec_CommitAll.l0])
  | succ k1=>
   have H:=HA.out;clear HA;simp only[spec_CommitAll.l0] at H
   by_cases av:xq2<4
   ·rw[if_pos av] at H;have cq13:decide (xq2<4)=true:=decide_eq_true av;clear av;replace H:=bE H;obtain⟨⟨tq7,tq8,tq9,tq10,tq11,aQ,tq13⟩,Aq2,H⟩:=H;dsimp only at H;have H':=aM H;clear H;obtain⟨hnbq8,hncq8⟩:=oB NBq14;obtain⟨hnbq9,hncq9⟩:=oB NBq16;obtain⟨be,bP⟩:=oB NBq18;obtain⟨bm,bF⟩:=oB NBq20;obtain⟨bQ,bH,bg,bv,bR,bK⟩:=cz6 ab.out;obtain⟨bN,bw,bL,br,bn,bC⟩:=fz6 ab.out;obtain⟨bG,bu⟩:=oB NBq2;obtain⟨bl,bo⟩:=oB NBq5;obtain⟨bs,bx⟩:=oB NBq9;obtain⟨bq,bJ,bA,bd⟩:=cz4 ac.out;obtain⟨bB,bO,bI,bj⟩:=fz4 ac.out;obtain⟨hnbq15,hncq15⟩:=oB NBq4;obtain⟨hnbq16,hncq16⟩:=oB NBq11;obtain⟨bD,bf⟩:=cz2 ae.out;obtain⟨bk,bz⟩:=fz2 ae.out;obtain⟨aJ,aL,aO⟩:=Kd.R_slice ag.out;subst aO;obtain⟨aH,aN,aP⟩:=Kd.R_slice af.out;subst aP;obtain⟨aI,aK,aR⟩:=Kd.S_slice ah.out;subst aR;go_wp2_with (first|(refine g_C 8 ?_;refine gL (some 23) Tryz.func8 #[.agg #[.slice aJ xq3.length aL,.slice aH xq4.length aN,.int .i64 xq5,.int .i64 xq6,.int .i64 xq7,.slice aI xq8.length aK],.agg #[.int .i64 aq,.int .i64 ap,.int .i64 an,.slice aD ai.length aB],.agg #[.int .i64 ao,.slice ax aj.length az],.int .i64 xq1] ?_;(with_reducible refine(spec_NextCommit.calls ?side1 ?side2 ?side3 ?side4 ?side5 ?side6 ?side7 ?side8 ?side9 ?side10 Aq2.out).mono ?_);(case side1=>have X_:=(Kd.R_reads' ag.out).2.2;exact TC);(case side2=>exact(Kd.R_reads' ag.out).2.1);(case side3=>have X_:=(Kd.R_reads' af.out).2.2;exact TC);(case side4=>exact(Kd.R_reads' af.out).2.1);(case side5=>have X_:=(Kd.S_reads' ah.out).2.2;exact TC);(case side6=>exact(Kd.S_reads' ah.out).2.1);(case side7=>have X_:=(Kd.C_below HRq4.out HB.out);exact TC);(case side8=>exact HCq4.out);(case side9=>have X_:=(Kd.C_below HRq5.out HB.out);exact TC);(case side10=>exact HCq5.out);rintro e wq7 ⟨vq6,vq7,vq8,rfl,hoq1,hoq2,hoq3,hb⟩;refine⟨_,rfl,?_⟩;have HOq7:=aM (Kd.R_lower (Kd.R_new' (Kd.R_new' hoq1 (Kd.R_lt (TRf ag))) (Kd.R_lt (TRf af))) (below_size TB));have HOq8:=aM (Kd.R_lower (Kd.R_new' (Kd.R_new' hoq2 (Kd.R_lt (TRf ag))) (Kd.R_lt (TRf af))) (below_size TB));have HOq9:=aM (Kd.S_lower (Kd.S_new' (Kd.S_new' (Kd.S_new' hoq3 (Kd.R_lt (TRf ag))) (Kd.R_lt (TRf af))) (Kd.S_lt (by have X_:=ah.out;exact TS))) (below_size TB));replace ag:=aM (Kd.R_mono (Kd.R_told (Kd.R_told (Kd.R_old (TRf ag) hb) (Kd.R_base hoq1)) (Kd.R_base hoq2)) (fun _ h_=>h_.1));replace af:=aM (Kd.R_mono (Kd.R_told (Kd.R_told (Kd.R_old (TRf af) hb) (Kd.R_base hoq1)) (Kd.R_base hoq2)) (fun _ h_=>h_.1));replace ah:=aM (Kd.S_mono (Kd.S_told (Kd.S_told (Kd.S_told (Kd.S_old (by have X_:=ah.out;exact TS) hb) (Kd.R_base hoq1)) (Kd.R_base hoq2)) (Kd.S_base hoq3)) (fun _ h_=>h_.1));replace aa:=mB aa hb;replace ac:=mB ac hb;replace ae:=mB ae hb;replace ad:=mB ad hb;replace ab:=mB ab hb;replace HB:=bS HB hb;clear hoq1 hoq2 hoq3 hb)|(refine g_D 10 ?_;refine gBx 10 #[.slice none 0 0,.slice none 0 0,.int .i64 0,.int .i64 0,.int .i64 0,.slice none 0 0] 39 ?_;intro gbq6 hg wq8 hbox hb;have BKq6:=aM (hbox);have GWq6:=gW HB hg;have GEq6:=gW HB hg;obtain⟨NBq21,NBq22⟩:=nB aa hg;obtain⟨NBq23,NBq24⟩:=nB ac hg;obtain⟨NBq25,NBq26⟩:=nB ae hg;obtain⟨NBq27,NBq28⟩:=nB ad hg;obtain⟨NBq29,NBq30⟩:=nB ab hg;replace ag:=mR ag hb;replace af:=mR af hb;replace ah:=aM (Kd.S_below (by have X_:=ah.out;exact TS) hb);replace HOq7:=mR HOq7 hb;replace HOq8:=mR HOq8 hb;replace HOq9:=aM (Kd.S_below (by have X_:=HOq9.out;exact TS) hb);replace aa:=mB aa hb;replace ac:=mB ac hb;replace ae:=mB ae hb;replace ad:=mB ad hb;replace ab:=mB ab hb;replace HB:=bS HB hb;clear hb hbox hg;obtain⟨Aoq7,coq7,eoq7⟩:=Kd.R_slice HOq7.out;subst eoq7;obtain⟨hnbq17,hncq17⟩:=oB NBq22;obtain⟨hnbq18,hncq18⟩:=oB NBq24;obtain⟨hnbq19,hncq19⟩:=oB NBq26;obtain⟨hnbq20,hncq20⟩:=oB NBq28;obtain⟨hnbq21,hncq21⟩:=oB NBq30;obtain⟨hczq25,hczq26,hczq27,hczq28,hczq29,hczq30⟩:=cz6 BKq6.out;obtain⟨hfzq25,hfzq26,hfzq27,hfzq28,hfzq29,hfzq30⟩:=fz6 BKq6.out;obtain⟨Aoq8,coq8,eoq8⟩:=Kd.R_slice HOq8.out;subst eoq8;obtain⟨Aoq9,coq9,eoq9⟩:=Kd.S_slice HOq9.out;subst eoq9;obtain⟨hczq31,hczq32,hczq33,hczq34,hczq35,hczq36⟩:=cz6 ab.out;obtain⟨hfzq31,hfzq32,hfzq33,hfzq34,hfzq35,hfzq36⟩:=fz6 ab.out))
    go_roundg k1
    case measure=>have:=HKq1.out;omega
    case rel=>exact⟨(tq13),(wrap64 (xq2+1)),(tq7),(tq8),(tq9),(tq10),(tq11),(aQ),(.slice Aoq7 tq7.length coq7),(.slice Aoq8 tq8.length coq8),(.slice Aoq9 aQ.length coq9),TF,TF,H',⟨by have:=HKq1.out;omega⟩,⟨by (with_reducible repeat (first|apply Kd.R_alloc|apply Kd.R_drewN|apply Kd.R_drew));exact Kd.R_mono (RK2 (Kd.R_types (Kd.R_types HOq7.out BKq6.out (by decide)) ab.out (by decide))) (fun _ hk=>hk.1.1.1.1)⟩,⟨by (with_reducible repeat (first|apply Kd.R_alloc|apply Kd.R_drewN|apply Kd.R_drew));exact Kd.R_mono (RK2 (Kd.R_types (Kd.R_types HOq8.out BKq6.out (by decide)) ab.out (by decide))) (fun _ hk=>hk.1.1.1.1)⟩,⟨by (with_reducible repeat (first|apply Kd.S_alloc|apply Kd.S_drewN|apply Kd.S_drew));exact Kd.S_mono (SK2 (Kd.S_types (Kd.S_types HOq9.out BKq6.out (by decide)) ab.out (by decide))) (fun _ hk=>⟨hk.1.1.1.1.1.1,hk.1.1.1.1.1.2⟩)⟩,⟨(TZ aa)⟩,⟨(TZ ac)⟩,⟨(TZ ae)⟩,⟨(TZ ad)⟩,⟨(blk_put (blk_put (blk_put (blk_put (blk_put (blk_put (cs:=#[.slice aJ xq3.length aL,.slice aH xq4.length aN,.int .i64 xq5,.int .i64 xq6,.int .i64 xq7,.slice aI xq8.length aK]) (TZ ab) 0 _ rfl) 1 _ rfl) 2 _ rfl) 3 _ rfl) 4 _ rfl) 5 _ rfl)⟩,⟨TB⟩⟩
   ·rw[if_neg av] at H;have cq13:decide (xq2<4)=false:=decide_eq_false av;clear av;simp only[Option.some.injEq,Prod.mk.injEq] at H;obtain⟨rfl,rfl,rfl,rfl,rfl,rfl⟩:=H;obtain⟨hnbq8,hncq8⟩:=oB NBq14;obtain⟨hnbq9,hncq9⟩:=oB NBq16;obtain⟨be,bP⟩:=oB NBq18;obtain⟨bm,bF⟩:=oB NBq20;obtain⟨bQ,bH,bg,bv,bR,bK⟩:=cz6 ab.out;obtain⟨bN,bw,bL,br,bn,bC⟩:=fz6 ab.out;obtain⟨aJ,aL,aO⟩:=Kd.R_slice ag.out;subst aO;obtain⟨bG,bu⟩:=oB NBq8;obtain⟨bl,bo⟩:=oB NBq10;obtain⟨bs,bx⟩:=oB NBq12;obtain⟨bq,bJ,bA,bd,bD,bf⟩:=cz6 ad.out;obtain⟨bB,bO,bI,bj,bk,bz⟩:=fz6 ad.out;obtain⟨aH,aN,aP⟩:=Kd.R_slice af.out;subst aP;obtain⟨aI,aK,aR⟩:=Kd.S_slice ah.out;subst aR;go_wp2
    refine bodyPost_ret (results_cell_row rfl _ _ gbq4 39 #[.slice aJ xq3.length aL,.slice aH xq4.length aN,.int .i64 xq5,.int .i64 xq6,.int .i64 xq7,.slice aI xq8.length aK] (0,0) _ rfl (blk_put (blk_put (blk_put (blk_put (blk_put (blk_put (cs:=#[.slice none 0 0,.slice none 0 0,.int .i64 0,.int .i64 0,.int .i64 0,.slice none 0 0]) (TZ ad) 0 _ rfl) 1 _ rfl) 2 _ rfl) 3 _ rfl) 4 _ rfl) 5 _ rfl) Tryz.underlying39 rfl (by kernel_rfl)) rfl ?_;exact⟨_,_,_,TE,by (with_reducible repeat (first|apply Kd.R_alloc|apply Kd.R_drewN|apply Kd.R_drew));exact Kd.R_mono (RK1 (Kd.R_types ag.out ad.out (by decide))) (fun _ hk=>hk.1),by (with_reducible repeat (first|apply Kd.R_alloc|apply Kd.R_drewN|apply Kd.R_drew));exact Kd.R_mono (RK1 (Kd.R_types af.out ad.out (by decide))) (fun _ hk=>hk.1),by (with_reducible repeat (first|apply Kd.S_alloc|apply Kd.S_drewN|apply Kd.S_drew));exact Kd.S_mono (SK1 (Kd.S_types ah.out ad.out (by decide))) (fun _ hk=>⟨hk.1.1,hk.1.2⟩),TB⟩
mutual
def impl_BytesOf.j1 :Nat→Int→Int→Option (List Int×Bool)
  |0,_,_=>none
  |k+1,a,b=>if a<1 then (impl_BytesOf.j2 k a b true) else (if 0≤(wrap64 (8 * b)) then (impl_BytesOf.j2 k a b ((shr .i64 a (wrap64 (8 * b))) != 1)) else (none))
def impl_BytesOf.j2 :Nat→Int→Int→Bool→Option (List Int×Bool)
  |0,_,_,_=>none
  |k+1,d,b,c=>if c=true then (some (([]:List Int),false)) else (if 0≤b then (if (b:Int).toNat≤281474976710656 then ((some (List.replicate (b:Int).toNat 0:List Int)).bind fun a=>(impl_BytesOf.l1 k d b a (a.length:Int) 0)) else (none)) else (none))
def impl_BytesOf.l1 :Nat→Int→Int→List Int→Int→Int→Option (List Int×Bool)
  |0,_,_,_,_,_=>none
  |k+1,e,c,d,b,a=>if a<b then (if 0≤(wrap64 (8 * (wrap64 ((wrap64 (c - 1)) - a)))) then (if 0≤a then (if a<(d.length:Int) then (impl_BytesOf.l1 k e c (d.set (a:Int).toNat ((shr .i64 e (wrap64 (8 * (wrap64 ((wrap64 (c - 1)) - a))))) % 256)) b (wrap64 (a+1))) else (none)) else (none)) else (none)) else (some (d,true))
def impl_BytesOf.l0 :Nat→Int→Int→Option (List Int×Bool)
  |0,_,_=>none
  |k+1,b,a=>if a<6 then (if 0≤(wrap64 (8 * a)) then (if (shr .i64 b (wrap64 (8 * a)))>1 then (impl_BytesOf.l0 k b (wrap64 (a+1))) else (impl_BytesOf.j1 k b a)) else (none)) else (impl_BytesOf.j1 k b a)
end
def impl_BytesOf.f (k:Nat)(a:Int):Option (List Int×Bool):=impl_BytesOf.l0 k a 0
theorem impl_BytesOf.mono_l :∀k,(∀a b,LeO (impl_BytesOf.j1 k a b) (impl_BytesOf.j1 (k+1) a b))∧(∀a b c,LeO (impl_BytesOf.j2 k a b c) (impl_BytesOf.j2 (k+1) a b c))∧(∀a b c d e,LeO (impl_BytesOf.l1 k a b c d e) (impl_BytesOf.l1 (k+1) a b c d e))∧(∀a b,LeO (impl_BytesOf.l0 k a b) (impl_BytesOf.l0 (k+1) a b))
  |0=>⟨fun _ _ r h=>by simp [impl_BytesOf.j1] at h,fun _ _ _ r h=>by simp [impl_BytesOf.j2] at h,fun _ _ _ _ _ r h=>by simp [impl_BytesOf.l1] at h,fun _ _ r h=>by simp [impl_BytesOf.l0] at h⟩
  | k+1=>by
    obtain⟨ih0,ih1,ih2,ih3⟩:=impl_BytesOf.mono_l k
    refine⟨?_,?_,?_,?_⟩
    · intro y0 y1
      unfold impl_BytesOf.j1
      exact LM
    · intro y0 y1 y2
      unfold impl_BytesOf.j2
      exact LM
    · intro y0 y1 y2 y3 y4
      unfold impl_BytesOf.l1
      exact LM
    · intro y0 y1
      unfold impl_BytesOf.l0
      exact LM
theorem impl_BytesOf.mono :∀a k,LeO (impl_BytesOf.f k a) (impl_BytesOf.f (k+1) a):=by
  intro a0 k;obtain⟨ih0,ih1,ih2,ih3⟩:=impl_BytesOf.mono_l k;unfold impl_BytesOf.f;exact LM
theorem impl_BytesOf.calls {k:Nat}{a0:Int}{r1:List Int}{r2:Bool}{w:World}(h:impl_BytesOf.f k a0=some (r1,r2)):
    Calls Tryz.prog 116 #[.int .i64 a0] w fun e w'=>∃v0_:Value,e=.returned (.tuple #[v0_,.bool r2])∧Kd.R (Kd.int .u8) 5 w' w.heap.size (fun _=>True) v0_ r1∧Below w.heap.size w w':=by
  have HB:=aM (Below.refl w.heap.size w)
  have H:=h
  clear h
  unfold impl_BytesOf.f at H
  have HC2:=aM H
  clear H
  go_enter Tryz.func116,Tryz.ntmps116
  go_upto_block 0 with (fail)
  go_cut [4] (fun v4 wc=>∃(kq:Nat) (x4_1:Int),v4=.int .i64 x4_1∧Aside0 (impl_BytesOf.j1 kq a0 x4_1=some (r1,r2))∧Aside0 (kq≤k)∧Aside0 (Below w.heap.size w wc))
  case first=>
    have H:=HC2.out
    clear HC2
    have H':=aM H
    clear H
    go_wp2
    go_loopg [4] k (fun kq v4 w'=>∃(x4_1:Int),v4=.int .i64 x4_1∧Aside0 (impl_BytesOf.l0 kq a0 x4_1=some (r1,r2))∧Aside0 (kq≤k)∧Aside0 (Below w.heap.size w w'))
    case atStart=>exact⟨(0),TF,H',⟨Nat.le_refl _⟩,⟨TB⟩⟩
    case round=>
      clear H'
      try clear c1
      try clear p2
      obtain⟨x4_1,rfl,HA,HK1,HB⟩:=hrel
      cases gk with
      |zero=>exact absurd HA.out (by simp [impl_BytesOf.l0])
      | succ k1=>
        have H:=HA.out
        clear HA
        simp only[impl_BytesOf.l0] at H
        by_cases c3:x4_1<6
        · rw[if_pos c3] at H
          have c3b0:decide (x4_1<6)=true:=decide_eq_true c3
          clear c3
          (first|rw[c3b0]|(simp only[i64_w,i32_w];rw[c3b0])|skip)
          obtain⟨ji4,hji4⟩:∃j_:Int,(wrap64 (8 * x4_1))=j_:=⟨_,rfl⟩
          (first|rw[hji4] at H|simp only[hji4] at H|skip)
          have hji4w:(IntKind.i64.wrap (8 * x4_1))=ji4:=(i64_w _).trans hji4
          replace H:=ifN H
          obtain⟨c5,H⟩:=H
          have c5b0:=eq_true c5
          have c5b1:decide (0≤(ji4))=true:=decide_eq_true c5
          clear c5
          obtain⟨ji6,hji6⟩:∃j_:Int,(shr .i64 a0 (ji4))=j_:=⟨_,rfl⟩
          (first|rw[hji6] at H|simp only[hji6] at H|skip)
          have hji6_:(a0 / 2 ^ min (ji4).toNat 64)=ji6:=hji6
          have hji6z:(ji4)≤64→(a0 / 2 ^ (ji4).toNat)=ji6:=shr_small hji6
          by_cases c7:(ji6)>1
          · rw[if_pos c7] at H
            have c7b0:decide (1<(ji6))=true:=decide_eq_true c7
            clear c7
            have H':=aM H
            clear H
            go_wp2
            go_roundg k1
            case measure=>have:=HK1.out;omega
            case rel=>exact⟨(wrap64 (x4_1+1)),TF,H',⟨by have:=HK1.out;omega⟩,⟨TB⟩⟩
          · rw[if_neg c7] at H
            have c7b0:decide (1<(ji6))=false:=decide_eq_false c7
            clear c7
            have H':=aM H
            clear H
            go_wp2
            go_meet
            case rel=>exact⟨_,(x4_1),TF,H',⟨by have:=HK1.out;first|omega|exact Nat.le_refl _⟩,⟨TB⟩⟩
        · rw[if_neg c3] at H
          have c3b0:decide (x4_1<6)=false:=decide_eq_false c3
          clear c3
          (first|rw[c3b0]|(simp only[i64_w,i32_w];rw[c3b0])|skip)
          have H':=aM H
          clear H
          go_wp2
          go_meet
          case rel=>exact⟨_,(x4_1),TF,H',⟨by have:=HK1.out;first|omega|exact Nat.le_refl _⟩,⟨TB⟩⟩
  case rest=>
    clear HC2
    try clear c1
    try clear p2
    try clear c3
    try clear c3b0
    try clear c5
    try clear c5b0
    try clear c5b1
    try clear p6
    try clear c7
    try clear c7b0
    try clear p2
    obtain⟨kq,x4_1,rfl,HA,HJ1,HB⟩:=hcut
    cases kq with
    |zero=>exact absurd HA.out (by simp [impl_BytesOf.j1])
    | succ kj1=>
      have H:=HA.out
      clear HA
      simp only[impl_BytesOf.j1] at H
      have HC8:=aM H
      clear H
      go_upto_region 4 with (fail)
      go_cut [26] (fun v26 wc=>∃(kq:Nat) (x26_7:Bool),v26=.bool x26_7∧Aside0 (impl_BytesOf.j2 kq a0 x4_1 x26_7=some (r1,r2))∧Aside0 (kq≤kj1)∧Aside0 (Below w.heap.size w wc))
      case first=>
        have H:=HC8.out
        clear HC8
        by_cases c9:a0<1
        · rw[if_pos c9] at H
          have c9b0:decide (a0<1)=true:=decide_eq_true c9
          clear c9
          (first|rw[c9b0]|(simp only[i64_w,i32_w];rw[c9b0])|skip)
          have H':=aM H
          clear H
          go_wp2
          go_meet
          case rel=>exact⟨_,(true),TF,H',⟨by have:=HJ1.out;first|omega|exact Nat.le_refl _⟩,⟨TB⟩⟩
        · rw[if_neg c9] at H
          have c9b0:decide (a0<1)=false:=decide_eq_false c9
          clear c9
          (first|rw[c9b0]|(simp only[i64_w,i32_w];rw[c9b0])|skip)
          obtain⟨ji10,hji10⟩:∃j_:Int,(wrap64 (8 * x4_1))=j_:=⟨_,rfl⟩
          (first|rw[hji10] at H|simp only[hji10] at H|skip)
          have hji10w:(IntKind.i64.wrap (8 * x4_1))=ji10:=(i64_w _).trans hji10
          replace H:=ifN H
          obtain⟨c11,H⟩:=H
          have c11b0:=eq_true c11
          have c11b1:decide (0≤(ji10))=true:=decide_eq_true c11
          clear c11
          obtain⟨ji12,hji12⟩:∃j_:Int,(shr .i64 a0 (ji10))=j_:=⟨_,rfl⟩
          (first|rw[hji12] at H|simp only[hji12] at H|skip)
          have hji12_:(a0 / 2 ^ min (ji10).toNat 64)=ji12:=hji12
          have hji12z:(ji10)≤64→(a0 / 2 ^ (ji10).toNat)=ji12:=shr_small hji12
          have H':=aM H
          clear H
          go_wp2
          go_meet
          case rel=>exact⟨_,(((ji12) != 1)),(by first|rfl|(simp;done)|(simp only[← hji12]<;>(first|rfl|simp))|(simp [*];done)),H',⟨by have:=HJ1.out;first|omega|exact Nat.le_refl _⟩,⟨TB⟩⟩
      case rest=>
        clear HC8
        try clear c1
        try clear p2
        try clear c3
        try clear c3b0
        try clear c5
        try clear c5b0
        try clear c5b1
        try clear p6
        try clear c7
        try clear c7b0
        try clear c9
        try clear c9b0
        try clear c11
        try clear c11b0
        try clear c11b1
        try clear p2
        try clear p6
        obtain⟨kq,x26_7,rfl,HA,HJ7,HB⟩:=hcut
        cases kq with
        |zero=>exact absurd HA.out (by simp [impl_BytesOf.j2])
        | succ kj7=>
          have H:=HA.out
          clear HA
          simp only[impl_BytesOf.j2] at H
          by_cases c13:x26_7=true
          · subst c13
            replace H:=ifT H
            simp only[Option.some.injEq,Prod.mk.injEq] at H
            obtain⟨rfl,rfl⟩:=H
            go_wp2
            go_ret2
            exact⟨_,TE,by first|exact Kd.R_nil _ _ _ _ _|exact Kd.N_nil _ _ _ _ _|exact Kd.V_nil _ _ _ _ _|exact Kd.Q_nil _ _ _ _ _|exact Kd.S_nil _ _ _ _ _,TB⟩
          · replace c13:=b_F c13
            subst c13
            replace H:=ifF H
            replace H:=ifN H
            obtain⟨c14,H⟩:=H
            have c14b0:=eq_true c14
            have c14b1:decide (0≤x4_1)=true:=decide_eq_true c14
            clear c14
            replace H:=ifN H
            obtain⟨c15,H⟩:=H
            have c15b0:=eq_true c15
            have c15b1:decide ((x4_1:Int).toNat≤281474976710656)=true:=decide_eq_true c15
            clear c15
            obtain⟨y608,hy608⟩:∃y_:List Int,y_=(List.replicate (x4_1:Int).toNat 0):=⟨_,rfl⟩
            replace H:=someE H hy608
            have Ny608:=aM hy608
            clear hy608
            have H':=aM H
            clear H
            go_wp2_with (first|(refine g_D 28 ?_;refine Kd.R_make (Kd.int .u8) _ 5 rfl (N:=28) rfl 22 _ _ rfl x4_1 rfl rfl Tryz.underlying22 (.int .u8 0) 1 info5 rfl (by decide) (by omega) 0 (ok:=fun _=>True) (okp:=fun _=>True) rfl (fun _ hk=>hk) trivial DT (Nat.le_trans (Nat.mul_le_mul_right _ (DT:x4_1.toNat≤281474976710656)) (by omega)) (Below.refl _ _) (Nat.le_refl _) ?_;intro v609 w16 ho17 hb hg_ hnew_;clear hg_ hnew_;(first|rw[← Ny608.out] at ho17|(simp only[Int.reduceToNat] at ho17;rw[← Ny608.out] at ho17));have HO610:=aM (Kd.R_lower ho17 (below_size TB));replace HB:=bS HB hb;clear hb ho17;obtain⟨Ao18,co18,eo18⟩:=Kd.R_slice HO610.out;subst eo18))
            go_loopg [31] kj7 (fun kq v31 w'=>∃(x5_3:List Int) (x31_3:Int),v31=.int .i64 x31_3∧Aside0 (impl_BytesOf.l1 kq a0 x4_1 x5_3 (y608.length:Int) x31_3=some (r1,r2))∧Aside0 (kq≤kj7)∧Aside0 (Kd.R (Kd.int .u8) 5 w' w.heap.size (fun _=>True) (.slice Ao18 y608.length co18) x5_3)∧Aside0 (Below w.heap.size w w'))
            case atStart=>exact⟨(y608),(0),TF,H',⟨Nat.le_refl _⟩,⟨by have X_:=HO610.out;exact TR⟩,⟨TB⟩⟩
            case round=>
              clear H'
              try clear c1
              try clear p2
              try clear c3
              try clear c3b0
              try clear c5
              try clear c5b0
              try clear c5b1
              try clear p6
              try clear c7
              try clear c7b0
              try clear c9
              try clear c9b0
              try clear c11
              try clear c11b0
              try clear c11b1
              try clear c13
              try clear c14
              try clear c14b0
              try clear c14b1
              try clear c15
              try clear c15b0
              try clear c15b1
              try clear p2
              try clear p6
              obtain⟨x5_3,x31_3,rfl,HA,HK3,HO_5,HB⟩:=hrel
              have hl5_3:=(Kd.R_reads' HO_5.out).1
              rw[hl5_3] at HO_5
              (try simp only[hl5_3])
              cases gk with
              |zero=>exact absurd HA.out (by simp [impl_BytesOf.l1])
              | succ k3=>
                have H:=HA.out
                clear HA
                simp only[impl_BytesOf.l1] at H
                by_cases c19:x31_3<(y608.length:Int)
                · rw[if_pos c19] at H
                  have c19b0:decide (x31_3<(y608.length:Int))=true:=decide_eq_true c19
                  clear c19
                  obtain⟨ji20,hji20⟩:∃j_:Int,(wrap64 (8 * (wrap64 ((wrap64 (x4_1 - 1)) - x31_3))))=j_:=⟨_,rfl⟩
                  (first|rw[hji20] at H|simp only[hji20] at H|skip)
                  have hji20w:(IntKind.i64.wrap (8 * (wrap64 ((wrap64 (x4_1 - 1)) - x31_3))))=ji20:=(i64_w _).trans hji20
                  replace H:=ifN H
                  obtain⟨c21,H⟩:=H
                  have c21b0:=eq_true c21
                  have c21b1:decide (0≤(ji20))=true:=decide_eq_true c21
                  clear c21
                  obtain⟨ji22,hji22⟩:∃j_:Int,(shr .i64 a0 (ji20))=j_:=⟨_,rfl⟩
                  (first|rw[hji22] at H|simp only[hji22] at H|skip)
                  have hji22_:(a0 / 2 ^ min (ji20).toNat 64)=ji22:=hji22
                  have hji22z:(ji20)≤64→(a0 / 2 ^ (ji20).toNat)=ji22:=shr_small hji22
                  replace H:=ifN H
                  obtain⟨c23,H⟩:=H
                  have c23b0:decide (0≤x31_3)=true:=decide_eq_true c23
                  clear c23
                  replace H:=ifN H
                  obtain⟨c24,H⟩:=H
                  have c24b0:decide (x31_3<(x5_3.length:Int))=true:=decide_eq_true c24
                  clear c24
                  obtain⟨y611,hy611⟩:∃y_:List Int,y_=(x5_3.set (x31_3:Int).toNat ((ji22) % 256)):=⟨_,rfl⟩
                  rw[← hy611] at H
                  have Ny611:=aM hy611
                  clear hy611
                  have H':=aM H
                  clear H
                  have p25:0≤(x31_3:Int):=DT
                  have q25:(x31_3:Int)<((x5_3.length:Int):Int):=DT
                  obtain⟨go25,co25,eo25,gb25,gl25,cl25,HG25⟩:=Kd.R_form HO_5.out (by omega)
                  (first|cases eo25|(injection eo25 with ea_ en_ ec_;(first|subst ea_|(injection ea_ with ea_;subst ea_));subst ec_;clear en_))
                  have GB25:=aM gb25
                  have GG25:=aM HG25
                  clear gb25 gl25 HG25
                  obtain⟨hx25_0,hf25_0⟩:=Kd.R_celln 0 HO_5.out (x31_3:Int) p25 q25
                  replace p25:=eq_true p25
                  replace q25:=eq_true q25
                  have HP26:=Kd.R_putg HO_5.out (x31_3:Int) ((ji22) % 256)
                  go_wp2_with (first|((with_reducible refine gate_store (t:=5) (p:=44) rfl ?_);refine store_event (t:=5) (p:=44) (v:=?vo_w27) (w1:=(wr.setCell ⟨go25,(x31_3:Int).toNat,none⟩ (.int .u8 ((ji22) % 256)))) ?hg ?ho ?hn ?hr ?_;(case ho=>rfl);(case hg=>rfl);(case hn=>rfl);(case hr=>first|(go_simp;done)|(go_simp;rfl));intro w27 hw;have hg:wr.grownBy w27 (some go25):=(by rw[hw];exact HP26.2);have hp_:Kd.R (Kd.int .u8) 5 w27 w.heap.size (fun _=>True) (.slice (some ⟨go25,0,none⟩) x5_3.length co18) y611:=(by rw[hw,Ny611.out];exact HP26.1);clear HP26;replace HO_5:=aM (hp_);replace HB:=aM ((by rw[hw];exact below_set (HB.out) GB25.out:Below w.heap.size w w27));clear hg hw hp_))
                  (try simp only[← hl5_3])
                  go_roundg k3
                  case measure=>have:=HJ1.out;have:=HJ7.out;have:=HK3.out;omega
                  case rel=>exact⟨(y611),(wrap64 (x31_3+1)),TF,H',⟨by have:=HJ1.out;have:=HJ7.out;have:=HK3.out;omega⟩,⟨by (try simp only[hl5_3]);(with_reducible repeat (first|apply Kd.R_alloc|apply Kd.R_drewN|apply Kd.R_drew));exact HO_5.out⟩,⟨TB⟩⟩
                · rw[if_neg c19] at H
                  have c19b0:decide (x31_3<(y608.length:Int))=false:=decide_eq_false c19
                  (try rw[hl5_3] at c19b0)
                  clear c19
                  simp only[Option.some.injEq,Prod.mk.injEq] at H
                  obtain⟨rfl,rfl⟩:=H
                  go_wp2
                  go_ret2
                  exact⟨_,TE,by have X_:=HO_5.out;exact TR,TB⟩
def impl_Wrap.f (c:Int)(a:Int):Option (Int):=(impl_within.f a 1 1000000000000).bind fun b=>(if b=true then (if a=0 then (none) else (some (Int.tmod (wrap64 ((Int.tmod c a)+a)) a))) else (some 0))
theorem impl_Wrap.calls {a0:Int}{a1:Int}{r:Int}{w:World}(h:impl_Wrap.f a0 a1=some r):
    Calls Tryz.prog 124 #[.int .i64 a0,.int .i64 a1] w fun e w'=>e=.returned (.int .i64 r)∧Drawn0 w w':=by
  have H:=h
  clear h
  unfold impl_Wrap.f at H
  replace H:=bE H
  obtain⟨t612,A3,H⟩:=H
  by_cases c4:t612=true
  · subst c4
    replace H:=ifT H
    replace H:=ifM H
    obtain⟨c5,H⟩:=H
    have c5b0:(a1==0)=false:=beq_eq_false_iff_ne.mpr c5
    have c5b1:(a1 != 0)=true:=bne_iff_ne.mpr c5
    obtain rfl:=o_I H
    go_enter Tryz.func124,Tryz.ntmps124
    go_wp2_with (first|(refine g_C 106 ?_;refine gL (some 6) Tryz.func106 #[.int .i64 a1,.int .i64 1,.int .i64 1000000000000] ?_;(with_reducible refine(impl_within.calls A3.out).mono ?_);rintro e w' ⟨rfl,⟨nd,rfl⟩⟩;refine⟨_,rfl,?_⟩))
    go_ret
    exact⟨by first|rfl|(simp;done)|(simp [*];done),TD⟩
  · replace c4:=b_F c4
    subst c4
    replace H:=ifF H
    obtain rfl:=o_I H
    go_enter Tryz.func124,Tryz.ntmps124
    go_wp2_with (first|(refine g_C 106 ?_;refine gL (some 6) Tryz.func106 #[.int .i64 a1,.int .i64 1,.int .i64 1000000000000] ?_;(with_reducible refine(impl_within.calls A3.out).mono ?_);rintro e w' ⟨rfl,⟨nd,rfl⟩⟩;refine⟨_,rfl,?_⟩))
    go_ret
    exact⟨by first|rfl|(simp;done)|(simp [*];done),TD⟩
def impl_weak.f (c:Int)(d:Int):Option (Int):=(impl_Wrap.f c 251).bind fun a=>((impl_Wrap.f d 251).bind fun b=>(some (wrap64 (a+(wrap64 (251 * b))))))
theorem impl_weak.calls {a0:Int}{a1:Int}{r:Int}{w:World}(h:impl_weak.f a0 a1=some r):
    Calls Tryz.prog 123 #[.int .i64 a0,.int .i64 a1] w fun e w'=>e=.returned (.int .i64 r)∧Drawn0 w w':=by
  have H:=h
  clear h
  unfold impl_weak.f at H
  replace H:=bE H
  obtain⟨t613,A3,H⟩:=H
  replace H:=bE H
  obtain⟨t614,A4,H⟩:=H
  obtain rfl:=o_I H
  go_enter Tryz.func123,Tryz.ntmps123
  go_wp2_with (first|(refine g_C 124 ?_;refine gL (some 6) Tryz.func124 #[.int .i64 a0,.int .i64 251] ?_;(with_reducible refine(impl_Wrap.calls A3.out).mono ?_);rintro e w' ⟨rfl,⟨nd,rfl⟩⟩;refine⟨_,rfl,?_⟩)|(refine g_C 124 ?_;refine gL (some 8) Tryz.func124 #[.int .i64 a1,.int .i64 251] ?_;(with_reducible refine(impl_Wrap.calls A4.out).mono ?_);rintro e w' ⟨rfl,⟨nd,rfl⟩⟩;refine⟨_,rfl,?_⟩))
  go_ret
  exact⟨by first|rfl|(simp;done)|(simp [*];done),TD⟩
def impl_WeakOf.l0 :Nat→Int→Int→List Int→Int→Int→Option (Int)
  |0,_,_,_,_,_=>none
  |k+1,c,e,b,f,a=>if a<f then (if 0≤a then (if a<(b.length:Int) then (impl_WeakOf.l0 k (Int.tmod (wrap64 (c+(wrap64 (rd b a)))) 251) (Int.tmod (wrap64 (e+(Int.tmod (wrap64 (c+(wrap64 (rd b a)))) 251))) 251) b f (wrap64 (a+1))) else (none)) else (none)) else ((impl_weak.f c e).bind fun d=>(some d))
def impl_WeakOf.f (k:Nat)(a:List Int):Option (Int):=impl_WeakOf.l0 k 0 0 a (a.length:Int) 0
theorem impl_WeakOf.mono_l :∀k,(∀a b c d e,LeO (impl_WeakOf.l0 k a b c d e) (impl_WeakOf.l0 (k+1) a b c d e))
  |0=>fun _ _ _ _ _ r h=>by simp [impl_WeakOf.l0] at h
  | k+1=>by
    have ih0:=impl_WeakOf.mono_l k
    · intro y0 y1 y2 y3 y4
      unfold impl_WeakOf.l0
      exact LM
theorem impl_WeakOf.mono :∀a k,LeO (impl_WeakOf.f k a) (impl_WeakOf.f (k+1) a):=by
  intro a0 k;have ih0:=impl_WeakOf.mono_l k;unfold impl_WeakOf.f;exact LM
theorem impl_WeakOf.calls {k:Nat}{A0:Option Addr}{c0:Nat}{l0:List Int}{r:Int}{w:World}(hr0:Kd.C (Kd.int .u8) w A0 l0.length l0)(hc0:l0.length≤c0)(h:impl_WeakOf.f k l0=some r):
  Calls Tryz.prog 117 #[.slice A0 l0.length c0] w fun e w'=>e=.returned (.int .i64 r)∧Drawn0 w w':=by
 have HRq1:=aM hr0;have HCq1:=aM hc0;clear hr0 hc0;have H:=h;clear h;unfold impl_WeakOf.f at H;have H':=aM H;clear H;go_enter Tryz.func117,Tryz.ntmps117;go_wp2
 go_loopg [3,4,9] k (fun kq vq1 v4 vq2 w'=>∃(xq1:Int) (aa:Int) (xq2:Int),vq1=.int .i64 xq1∧v4=.int .i64 aa∧vq2=.int .i64 xq2∧Aside0 (impl_WeakOf.l0 kq xq1 aa l0 (l0.length:Int) xq2=some r)∧Aside0 (kq≤k)∧Drawn0 w w')
 case atStart=>exact⟨(0),(0),(0),TF,TF,TF,H',⟨Nat.le_refl _⟩,TD⟩
 case round=>
  clear H';obtain⟨xq1,aa,xq2,rfl,rfl,rfl,HA,HK1,⟨mq1,rfl⟩⟩:=hrel;cases gk with
  |zero=>exact absurd HA.out (by simp [impl_WeakOf.l0])
  | succ k1=>
   have H:=HA.out;clear HA;simp only[impl_WeakOf.l0] at H
   by_cases cq1:xq2<(l0.length:Int)
   ·rw[if_pos cq1] at H;have cq2:decide (xq2<(l0.length:Int))=true:=decide_eq_true cq1;clear cq1;replace H:=ifN H;obtain⟨c3,H⟩:=H;have c3b0:decide (0≤xq2)=true:=decide_eq_true c3;clear c3;replace H:=ifN H;obtain⟨c4,H⟩:=H;have cq3:decide (xq2<(l0.length:Int))=true:=decide_eq_true c4;clear c4;have H':=aM H;clear H;have pq1:0≤(xq2:Int):=DT;have qq1:xq2<(l0.length:Int):=DT;obtain⟨adq1,eq1,hxq1⟩:=Kd.at_int HRq1.out xq2 pq1 qq1;cases eq1;replace pq1:=eq_true pq1;replace qq1:=eq_true qq1;go_wp2
    go_roundg k1
    case measure=>have:=HK1.out;omega
    case rel=>exact⟨(Int.tmod (wrap64 (xq1+(wrap64 (rd l0 xq2)))) 251),(Int.tmod (wrap64 (aa+(Int.tmod (wrap64 (xq1+(wrap64 (rd l0 xq2)))) 251))) 251),(wrap64 (xq2+1)),TF,TF,TF,H',⟨by have:=HK1.out;omega⟩,TD⟩
   ·rw[if_neg cq1] at H;have cq2:decide (xq2<(l0.length:Int))=false:=decide_eq_false cq1;clear cq1;replace H:=bE H;obtain⟨t616,Aq1,H⟩:=H;obtain rfl:=o_I H;go_wp2_with (first|(refine g_C 123 ?_;refine gL (some 25) Tryz.func123 #[.int .i64 xq1,.int .i64 aa] ?_;(with_reducible refine(impl_weak.calls Aq1.out).mono ?_);rintro e w' ⟨rfl,⟨nd,rfl⟩⟩;refine⟨_,rfl,?_⟩))
    go_ret
    exact⟨by first|rfl|(simp;done)|(simp [*];done),TD⟩
theorem Zq26_0 {p:Prop}(h:p:=by (with_reducible repeat (first|apply Kd.V_alloc|apply Kd.V_drewN|apply Kd.V_drew));exact HO0_1.out):p:=h
def impl_SetOk.f (b:Int):Option (Bool):=(impl_within.f b 0 1099511627775).bind fun a=>(some a)
theorem impl_SetOk.calls {a0:Int}{r:Bool}{w:World}(h:impl_SetOk.f a0=some r):
    Calls Tryz.prog 93 #[.int .i64 a0] w fun e w'=>e=.returned (.bool r)∧Drawn0 w w':=by
  have H:=h
  clear h
  unfold impl_SetOk.f at H
  replace H:=bE H
  obtain⟨t631,A2,H⟩:=H
  obtain rfl:=o_I H
  go_enter Tryz.func93,Tryz.ntmps93
  go_wp2_with (first|(refine g_C 106 ?_;refine gL (some 4) Tryz.func106 #[.int .i64 a0,.int .i64 0,.int .i64 1099511627775] ?_;(with_reducible refine(impl_within.calls A2.out).mono ?_);rintro e w' ⟨rfl,⟨nd,rfl⟩⟩;refine⟨_,rfl,?_⟩))
  go_ret
  exact⟨by first|rfl|(simp;done)|(simp [*];done),TD⟩
def impl_FullSet.f (a:Int):Option (Int):=(impl_within.f a 0 40).bind fun b=>(if b=true then (if 0≤a then (some (wrap64 ((shl .i64 1 a) - 1))) else (none)) else (some 0))
theorem impl_FullSet.calls {a0:Int}{r:Int}{w:World}(h:impl_FullSet.f a0=some r):
    Calls Tryz.prog 118 #[.int .i64 a0] w fun e w'=>e=.returned (.int .i64 r)∧Drawn0 w w':=by
  have H:=h
  clear h
  unfold impl_FullSet.f at H
  replace H:=bE H
  obtain⟨t632,A2,H⟩:=H
  by_cases c3:t632=true
  · subst c3
    replace H:=ifT H
    replace H:=ifN H
    obtain⟨c4,H⟩:=H
    have c4b0:=eq_true c4
    have c4b1:decide (0≤a0)=true:=decide_eq_true c4
    clear c4
    obtain⟨ji5,hji5⟩:∃j_:Int,(shl .i64 1 a0)=j_:=⟨_,rfl⟩
    (first|rw[hji5] at H|simp only[hji5] at H|skip)
    (try rw[hji5] at A2)
    have hji5_:(IntKind.i64.wrap (1 * 2 ^ min a0.toNat 64))=ji5:=hji5
    have hji5z:a0≤64→(IntKind.i64.wrap (1 * 2 ^ a0.toNat))=ji5:=shl_small hji5
    have hji5u:(IntKind.i64.wrap (2 ^ min a0.toNat 64))=ji5:=by have h_:=hji5_;rw[Int.one_mul] at h_;exact h_
    have hji5v:a0≤64→(IntKind.i64.wrap (2 ^ a0.toNat))=ji5:=fun hle_=>by have h_:=hji5z hle_;rw[Int.one_mul] at h_;exact h_
    have hji5y:(wrap64 (1 * 2 ^ min a0.toNat 64))=ji5:=(i64_w _).symm.trans hji5_
    have hji5x:a0≤64→(wrap64 (1 * 2 ^ a0.toNat))=ji5:=fun h_=>(i64_w _).symm.trans (hji5z h_)
    obtain rfl:=o_I H
    go_enter Tryz.func118,Tryz.ntmps118
    go_wp2_with (first|(refine g_C 106 ?_;refine gL (some 4) Tryz.func106 #[.int .i64 a0,.int .i64 0,.int .i64 40] ?_;(with_reducible refine(impl_within.calls A2.out).mono ?_);rintro e w' ⟨rfl,⟨nd,rfl⟩⟩;refine⟨_,rfl,?_⟩))
    go_ret
    exact⟨by first|rfl|(simp;done)|(simp only[← hji5]<;>(first|rfl|simp))|(simp [*];done),TD⟩
  · replace c3:=b_F c3
    subst c3
    replace H:=ifF H
    obtain rfl:=o_I H
    go_enter Tryz.func118,Tryz.ntmps118
    go_wp2_with (first|(refine g_C 106 ?_;refine gL (some 4) Tryz.func106 #[.int .i64 a0,.int .i64 0,.int .i64 40] ?_;(with_reducible refine(impl_within.calls A2.out).mono ?_);rintro e w' ⟨rfl,⟨nd,rfl⟩⟩;refine⟨_,rfl,?_⟩))
    go_ret
    exact⟨by first|rfl|(simp;done)|(simp [*];done),TD⟩
def impl_AllParts.f (c:Int)(d:Int)(e:Int)(a:List (S96)):Option (Int):=(impl_FullSet.f (a.length:Int)).bind fun b=>(some b)
theorem impl_AllParts.calls {a0_0:Int}{a0_1:Int}{a0_2:Int}{A0_3:Option Addr}{c0_3:Nat}{l0_3:List (S96)}{r:Int}{w:World}(hr0_3:Kd.C k96 w A0_3 l0_3.length l0_3)(hc0_3:l0_3.length≤c0_3)(h:impl_AllParts.f a0_0 a0_1 a0_2 l0_3=some r):
    Calls Tryz.prog 94 #[.agg #[.int .i64 a0_0,.int .i64 a0_1,.int .i64 a0_2,.slice A0_3 l0_3.length c0_3]] w fun e w'=>e=.returned (.int .i64 r)∧Below w.heap.size w w':=by
  have hu45:=Tryz.underlying45
  have HR0_3:=aM hr0_3
  have HC0_3:=aM hc0_3
  clear hr0_3 hc0_3
  have HB:=aM (Below.refl w.heap.size w)
  have H:=h
  clear h
  unfold impl_AllParts.f at H
  replace H:=bE H
  obtain⟨t634,A2,H⟩:=H
  obtain rfl:=o_I H
  go_enter Tryz.func94,Tryz.ntmps94
  go_wp2_with (first|(refine g_D 1 ?_;refine gBx 1 #[.int .i64 a0_0,.int .i64 a0_1,.int .i64 a0_2,.slice A0_3 l0_3.length c0_3] 45 ?_;intro gb633 hg w3 hbox hb;have BK633:=aM (hbox);have GW633:=gW HB hg;have GE633:=gW HB hg;replace HB:=bS HB hb;clear hb hbox hg;obtain⟨hcz4_0,hcz4_1,hcz4_2,hcz4_3⟩:=cz4 BK633.out;obtain⟨hfz4_0,hfz4_1,hfz4_2,hfz4_3⟩:=fz4 BK633.out)|(refine g_C 118 ?_;refine gL (some 6) Tryz.func118 #[.int .i64 (l0_3.length:Int)] ?_;(with_reducible refine(impl_FullSet.calls A2.out).mono ?_);rintro e w' ⟨rfl,⟨nd,rfl⟩⟩;refine⟨_,rfl,?_⟩))
  go_ret
  exact⟨TE,TB⟩
def impl_Build_block.f (e:Int)(b:List Int)(f:Int)(c:Int)(d:Int)(g:List (S96))(h:Int):Option (List Int):=(impl_SpanOf.f c d h).bind fun a=>(if 0≤a.1 then (if a.1≤(wrap64 (a.1+a.2)) then (if (wrap64 (a.1+a.2))≤(b.length:Int) then (some ((b.take ((wrap64 (a.1+a.2)):Int).toNat).drop (a.1:Int).toNat)) else (none)) else (none)) else (none))
theorem impl_Build_block.calls {a0_0:Int}(P0_1_:Nat→Prop)(A0_1:Option Addr)(c0_1:Nat)(l0_1:List Int)(a1_0:Int)(a1_1:Int)(a1_2:Int)(A1_3:Option Addr)(c1_3:Nat)(l1_3:List (S96))(a2:Int)(r:List Int)(w:World)(hs0_1:Kd.V (Kd.int .u8) 5 w w.heap.size (fun k_=>P0_1_ k_) (.slice A0_1 l0_1.length c0_1) l0_1)(hr1_3:Kd.C k96 w A1_3 l1_3.length l1_3)(hc1_3:l1_3.length≤c1_3)(h:impl_Build_block.f a0_0 l0_1 a1_0 a1_1 a1_2 l1_3 a2=some r):
    Calls Tryz.prog 95 #[.agg #[.int .i64 a0_0,.slice A0_1 l0_1.length c0_1],.agg #[.int .i64 a1_0,.int .i64 a1_1,.int .i64 a1_2,.slice A1_3 l1_3.length c1_3],.int .i64 a2] w fun e w'=>∃v0_:Value,e=.returned (v0_)∧Kd.V (Kd.int .u8) 5 w' w.heap.size (fun k_=>(P0_1_ k_∨w.heap.size≤k_)) v0_ r∧Below w.heap.size w w':=by
  have hu47:=Tryz.underlying47
  have hu45:=Tryz.underlying45
  have HO0_1:=aM (show Kd.V (Kd.int .u8) 5 w w.heap.size (fun k_=>(P0_1_ k_∨w.heap.size≤k_)) (.slice A0_1 l0_1.length c0_1) l0_1 from Kd.V_mono hs0_1 (fun k_ hk=>.inl hk))
  have HR1_3:=aM hr1_3
  have HC1_3:=aM hc1_3
  clear hr1_3 hc1_3
  have HB:=aM (Below.refl w.heap.size w)
  have H:=h
  clear h
  unfold impl_Build_block.f at H
  replace H:=bE H
  obtain⟨⟨t637,t638⟩,A4,H⟩:=H
  dsimp only at H
  replace H:=ifN H
  obtain⟨c5,H⟩:=H
  have c5b0:=eq_true c5
  have c5b1:decide (0≤t637)=true:=decide_eq_true c5
  clear c5
  replace H:=ifN H
  obtain⟨c6,H⟩:=H
  have c6b0:=eq_true c6
  have c6b1:decide (t637≤(wrap64 (t637+t638)))=true:=decide_eq_true c6
  replace H:=ifN H
  obtain⟨c7,H⟩:=H
  have c7b0:=eq_true c7
  have c7b1:decide ((wrap64 (t637+t638))≤(l0_1.length:Int))=true:=decide_eq_true c7
  obtain⟨y639,hy639⟩:∃y_:List Int,y_=((l0_1.take ((wrap64 (t637+t638)):Int).toNat).drop (t637:Int).toNat):=⟨_,rfl⟩
  rw[← hy639] at H
  have Ny639:=aM hy639
  clear hy639
  obtain rfl:=o_I H
  go_enter Tryz.func95,Tryz.ntmps95
  go_wp2_with (first|(refine g_D 3 ?_;refine gBx 3 #[.int .i64 a0_0,.slice A0_1 l0_1.length c0_1] 47 ?_;intro gb635 hg w8 hbox hb;have BK635:=aM (hbox);have GW635:=gW HB hg;have GE635:=gW HB hg;replace HO0_1:=aM (Kd.V_below (Kd.V_elderB (by exact Zq26_0) gb635 (Nat.le_of_eq hg.symm)) hb);replace HB:=bS HB hb;clear hb hbox hg)|(refine g_D 4 ?_;refine gBx 4 #[.int .i64 a1_0,.int .i64 a1_1,.int .i64 a1_2,.slice A1_3 l1_3.length c1_3] 45 ?_;intro gb636 hg w9 hbox hb;have BK636:=aM (hbox);have GW636:=gW HB hg;have GE636:=gW HB hg;obtain⟨NB635_636,NB636_635⟩:=nB BK635 hg;replace HO0_1:=aM (Kd.V_below (Kd.V_elderB (by exact Zq26_0) gb636 (Nat.le_of_eq hg.symm)) hb);replace BK635:=mB BK635 hb;replace HB:=bS HB hb;clear hb hbox hg;obtain⟨hnb10,hnc10⟩:=oB NB636_635;obtain⟨hcz11_0,hcz11_1,hcz11_2,hcz11_3⟩:=cz4 BK636.out;obtain⟨hfz11_0,hfz11_1,hfz11_2,hfz11_3⟩:=fz4 BK636.out)|(refine g_C 108 ?_;refine gL (some 15) Tryz.func108 #[.int .i64 a1_1,.int .i64 a1_2,.int .i64 a2] ?_;(with_reducible refine(impl_SpanOf.calls A4.out).mono ?_);rintro e w12 ⟨rfl,hb⟩;refine⟨_,rfl,?_⟩;replace HO0_1:=aM (Kd.V_below (by exact Zq26_0) hb);replace BK635:=mB BK635 hb;replace BK636:=mB BK636 hb;replace HB:=bS HB hb;clear hb;obtain⟨hcz13_0,hcz13_1⟩:=cz2 BK635.out;obtain⟨hfz13_0,hfz13_1⟩:=fz2 BK635.out;have q14:((wrap64 (t637+t638)):Int)≤((l0_1.length:Int):Int):=DT;obtain⟨i014,hi014,_,hsz14,_⟩:=info_parts info5;have hroom14:l0_1.length≤c0_1:=(Kd.V_reads' HO0_1.out).2.1;have hC14:Kd.F (Kd.int .u8) _ _ A0_1 l0_1.length l0_1:=(Kd.V_at (base:=w.heap.size) HO0_1.out).2.2;have ql14:(t637:Int)≤((wrap64 (t637+t638)):Int):=DT;have q014:(0:Int)≤(t637:Int):=DT;have hcut14:=cut_mid (P:=Tryz.prog) 22 5 .i64 .i64 Tryz.underlying22 hi014 1 hsz14 A0_1 l0_1.length c0_1 t637 (wrap64 (t637+t638)) q014 ql14 q14 hroom14;have hr14:=Kd.F_mid (lo:=(t637:Int).toNat) (hi:=((wrap64 (t637+t638)):Int).toNat) (c:=c0_1) hC14 (by omega) (by omega) hroom14;obtain⟨A14,hA14⟩:∃A1,A1=(if c0_1=(t637:Int).toNat then A0_1 else (A0_1:Option Addr).map (·.add ((t637:Int).toNat * 1))):=⟨_,rfl⟩;obtain⟨c14,hc14⟩:∃c1,c1=c0_1 - (t637:Int).toNat:=⟨_,rfl⟩;have hy14:y639.length=((wrap64 (t637+t638)):Int).toNat - (t637:Int).toNat:=(by rw[Ny639.out,List.length_drop,List.length_take]<;>omega);rw[show((l0_1).take ((wrap64 (t637+t638)):Int).toNat).drop (t637:Int).toNat=y639 from Ny639.out.symm] at hr14;replace hr14:Kd.F (Kd.int .u8) _ _ A14 y639.length y639:=(by rw[hA14];exact hr14);rw[← hy14,← hA14,← hc14] at hcut14;have HO643:=aM (show Kd.V (Kd.int .u8) 5 _ w.heap.size _ (.slice A14 y639.length c14) y639 from Kd.V_mk (by rw[hy14,hc14];exact Nat.sub_le_sub_right (Nat.le_trans (by omega) hroom14) _) hr14);have HC643:=aM (show y639.length≤c14 from by rw[hy14,hc14];exact Nat.sub_le_sub_right (Nat.le_trans (by omega) hroom14) _);clear hr14 hC14 hroom14 hi014 hsz14 hc14;have KY14:=aM hy14;have KA14:=aM hA14;clear hy14 hA14;replace q14:=eq_true q14))
  go_ret
  exact⟨_,TE,by (with_reducible repeat (first|apply Kd.V_alloc|apply Kd.V_drewN|apply Kd.V_drew));exact Kd.V_mono HO643.out (fun _ hk=>hk.1.1),TB⟩
def impl_isPlace.f (b:Int):Option (Bool):=(impl_within.f b 0 39).bind fun a=>(some a)
theorem impl_isPlace.calls {a0:Int}{r:Bool}{w:World}(h:impl_isPlace.f a0=some r):
    Calls Tryz.prog 119 #[.int .i64 a0] w fun e w'=>e=.returned (.bool r)∧Drawn0 w w':=by
  have H:=h
  clear h
  unfold impl_isPlace.f at H
  replace H:=bE H
  obtain⟨t644,A2,H⟩:=H
  obtain rfl:=o_I H
  go_enter Tryz.func119,Tryz.ntmps119
  go_wp2_with (first|(refine g_C 106 ?_;refine gL (some 4) Tryz.func106 #[.int .i64 a0,.int .i64 0,.int .i64 39] ?_;(with_reducible refine(impl_within.calls A2.out).mono ?_);rintro e w' ⟨rfl,⟨nd,rfl⟩⟩;refine⟨_,rfl,?_⟩))
  go_ret
  exact⟨by first|rfl|(simp;done)|(simp [*];done),TD⟩
def impl_InSet.f (d:Int)(a:Int):Option (Bool):=(impl_SetOk.f d).bind fun b=>(if b=true then ((impl_isPlace.f a).bind fun c=>(if c=true then (if 0≤a then (some ((Go.bits .and .i64 (shr .i64 d a) 1)==1)) else (none)) else (some false))) else (some false))
theorem impl_InSet.calls {a0:Int}{a1:Int}{r:Bool}{w:World}(h:impl_InSet.f a0 a1=some r):
    Calls Tryz.prog 96 #[.int .i64 a0,.int .i64 a1] w fun e w'=>e=.returned (.bool r)∧Drawn0 w w':=by
  have H:=h
  clear h
  unfold impl_InSet.f at H
  replace H:=bE H
  obtain⟨t645,A3,H⟩:=H
  by_cases c4:t645=true
  · subst c4
    replace H:=ifT H
    replace H:=bE H
    obtain⟨t646,A5,H⟩:=H
    by_cases c6:t646=true
    · subst c6
      replace H:=ifT H
      replace H:=ifN H
      obtain⟨c7,H⟩:=H
      have c7b0:=eq_true c7
      have c7b1:decide (0≤a1)=true:=decide_eq_true c7
      clear c7
      obtain⟨ji8,hji8⟩:∃j_:Int,(shr .i64 a0 a1)=j_:=⟨_,rfl⟩
      (first|rw[hji8] at H|simp only[hji8] at H|skip)
      (try rw[hji8] at A3)
      (try rw[hji8] at A5)
      have hji8_:(a0 / 2 ^ min a1.toNat 64)=ji8:=hji8
      have hji8z:a1≤64→(a0 / 2 ^ a1.toNat)=ji8:=shr_small hji8
      obtain rfl:=o_I H
      go_enter Tryz.func96,Tryz.ntmps96
      go_wp2_with (first|(refine g_C 93 ?_;refine gL (some 6) Tryz.func93 #[.int .i64 a0] ?_;(with_reducible refine(impl_SetOk.calls A3.out).mono ?_);rintro e w' ⟨rfl,⟨nd,rfl⟩⟩;refine⟨_,rfl,?_⟩)|(go_at_call 119;(with_reducible refine(impl_isPlace.calls A5.out).mono ?_);rintro e w' ⟨rfl,⟨nd,rfl⟩⟩))
      go_ret
      exact⟨by first|rfl|(simp;done)|(simp only[← hji8]<;>(first|rfl|simp))|(simp [*];done),TD⟩
    · replace c6:=b_F c6
      subst c6
      replace H:=ifF H
      obtain rfl:=o_I H
      go_enter Tryz.func96,Tryz.ntmps96
      go_wp2_with (first|(refine g_C 93 ?_;refine gL (some 6) Tryz.func93 #[.int .i64 a0] ?_;(with_reducible refine(impl_SetOk.calls A3.out).mono ?_);rintro e w' ⟨rfl,⟨nd,rfl⟩⟩;refine⟨_,rfl,?_⟩)|(go_at_call 119;(with_reducible refine(impl_isPlace.calls A5.out).mono ?_);rintro e w' ⟨rfl,⟨nd,rfl⟩⟩))
      go_ret
      exact⟨by first|rfl|(simp;done)|(simp [*];done),TD⟩
  · replace c4:=b_F c4
    subst c4
    replace H:=ifF H
    obtain rfl:=o_I H
    go_enter Tryz.func96,Tryz.ntmps96
    go_wp2_with (first|(refine g_C 93 ?_;refine gL (some 6) Tryz.func93 #[.int .i64 a0] ?_;(with_reducible refine(impl_SetOk.calls A3.out).mono ?_);rintro e w' ⟨rfl,⟨nd,rfl⟩⟩;refine⟨_,rfl,?_⟩))
    go_ret
    exact⟨by first|rfl|(simp;done)|(simp [*];done),TD⟩
def impl_SumOf.l0 :Nat→List Int→Int→List Int→Int→Int→Option (Int×Int)
  |0,_,_,_,_,_=>none
  |k+1,e,f,b,c,a=>if a<c then (if 0≤a then (if a<(b.length:Int) then (impl_SumOf.l0 k e (Go.bits .or .i64 (wrap64 (f * 256)) (wrap64 (rd b a))) b c (wrap64 (a+1))) else (none)) else (none)) else ((impl_WeakOf.f k e).bind fun d=>(some (d,f)))
def impl_SumOf.f (k:Nat)(a:List Int):Option (Int×Int):=if (a.length:Int)>6 then (some (0,0)) else (impl_SumOf.l0 k a 1 a (a.length:Int) 0)
theorem impl_SumOf.mono_l :∀k,(∀a b c d e,LeO (impl_SumOf.l0 k a b c d e) (impl_SumOf.l0 (k+1) a b c d e))
  |0=>fun _ _ _ _ _ r h=>by simp [impl_SumOf.l0] at h
  | k+1=>by
    have m0_:=@impl_WeakOf.mono
    have ih0:=impl_SumOf.mono_l k
    · intro y0 y1 y2 y3 y4
      unfold impl_SumOf.l0
      exact LM
theorem impl_SumOf.mono :∀a k,LeO (impl_SumOf.f k a) (impl_SumOf.f (k+1) a):=by
  intro a0 k;have m0_:=@impl_WeakOf.mono;have ih0:=impl_SumOf.mono_l k;unfold impl_SumOf.f;exact LM
theorem impl_SumOf.calls {k:Nat}{A0:Option Addr}{c0:Nat}{l0:List Int}{r1:Int}{r2:Int}{w:World}(hr0:Kd.C (Kd.int .u8) w A0 l0.length l0)(hc0:l0.length≤c0)(h:impl_SumOf.f k l0=some (r1,r2)):
    Calls Tryz.prog 97 #[.slice A0 l0.length c0] w fun e w'=>e=.returned (.agg #[.int .i64 r1,.int .i64 r2])∧Below w.heap.size w w':=by
  have hu96:=Tryz.underlying96
  have HR0:=aM hr0
  have HC0:=aM hc0
  clear hr0 hc0
  have HB:=aM (Below.refl w.heap.size w)
  have H:=h
  clear h
  unfold impl_SumOf.f at H
  by_cases c2:(l0.length:Int)>6
  · rw[if_pos c2] at H
    have c2b0:decide (6<(l0.length:Int))=true:=decide_eq_true c2
    have c2b1:decide (6<l0.length)=true:=decide_eq_true (by omega)
    clear c2
    simp only[Option.some.injEq,Prod.mk.injEq] at H
    obtain⟨rfl,rfl⟩:=H
    go_enter Tryz.func97,Tryz.ntmps97
    go_wp2_with (first|(refine g_D 2 ?_;refine gBx 2 #[.int .i64 0,.int .i64 0] 96 ?_;intro gb647 hg w3 hbox hb;have BK647:=aM (hbox);have GW647:=gW HB hg;have GE647:=gW HB hg;replace HB:=bS HB hb;clear hb hbox hg;obtain⟨hcz4_0,hcz4_1⟩:=cz2 BK647.out;obtain⟨hfz4_0,hfz4_1⟩:=fz2 BK647.out))
    refine bodyPost_ret (results_cell_row rfl _ _ gb647 96 #[.int .i64 0,.int .i64 0] (0,0) _ rfl (blk_put (blk_put (cs:=#[.int .i64 0,.int .i64 0]) (TZ BK647) 0 _ rfl) 1 _ rfl) Tryz.underlying96 rfl (by kernel_rfl)) rfl ?_
    exact⟨TE,TB⟩
  · rw[if_neg c2] at H
    have c2b0:decide (6<(l0.length:Int))=false:=decide_eq_false c2
    have c2b1:decide (6<l0.length)=false:=decide_eq_false (by omega)
    clear c2
    have H':=aM H
    clear H
    go_enter Tryz.func97,Tryz.ntmps97
    go_wp2_with (first|(refine g_D 2 ?_;refine gBx 2 #[.int .i64 0,.int .i64 0] 96 ?_;intro gb647 hg w5 hbox hb;have BK647:=aM (hbox);have GW647:=gW HB hg;have GE647:=gW HB hg;replace HB:=bS HB hb;clear hb hbox hg))
    go_loopg [3,12] k (fun kq v3 v12 w'=>∃(x3_1:Int) (x12_1:Int),v3=.int .i64 x3_1∧v12=.int .i64 x12_1∧Aside0 (impl_SumOf.l0 kq l0 x3_1 l0 (l0.length:Int) x12_1=some (r1,r2))∧Aside0 (kq≤k)∧Aside0 (w'.heap[gb647]?=some (.cells #[.int .i64 0,.int .i64 0] 96 (0,0)))∧Aside0 (Below w.heap.size w w'))
    case atStart=>exact⟨(1),(0),TF,TF,H',⟨Nat.le_refl _⟩,⟨TK⟩,⟨TB⟩⟩
    case round=>
      clear H'
      try clear c2
      try clear c2b0
      try clear c2b1
      try clear p2
      try clear hcz4_0
      try clear hcz4_1
      try clear hfz4_0
      try clear hfz4_1
      obtain⟨x3_1,x12_1,rfl,rfl,HA,HK1,BK647,HB⟩:=hrel
      cases gk with
      |zero=>exact absurd HA.out (by simp [impl_SumOf.l0])
      | succ k1=>
        have H:=HA.out
        clear HA
        simp only[impl_SumOf.l0] at H
        by_cases c6:x12_1<(l0.length:Int)
        · rw[if_pos c6] at H
          have c6b0:decide (x12_1<(l0.length:Int))=true:=decide_eq_true c6
          clear c6
          replace H:=ifN H
          obtain⟨c7,H⟩:=H
          have c7b0:decide (0≤x12_1)=true:=decide_eq_true c7
          clear c7
          replace H:=ifN H
          obtain⟨c8,H⟩:=H
          have c8b0:decide (x12_1<(l0.length:Int))=true:=decide_eq_true c8
          clear c8
          have H':=aM H
          clear H
          have p648:0≤(x12_1:Int):=DT
          have q648:x12_1<(l0.length:Int):=DT
          obtain⟨ad648,e648,hx648_0⟩:=Kd.at_int HR0.out x12_1 p648 q648
          cases e648
          replace hx648_0:=(HB.out.cell (World.block_lt_of_cell? w _ hx648_0)).trans hx648_0
          replace p648:=eq_true p648
          replace q648:=eq_true q648
          go_wp2
          go_roundg k1
          case measure=>have:=HK1.out;omega
          case rel=>exact⟨(Go.bits .or .i64 (wrap64 (x3_1 * 256)) (wrap64 (rd l0 x12_1))),(wrap64 (x12_1+1)),TF,TF,H',⟨by have:=HK1.out;omega⟩,⟨TK⟩,⟨TB⟩⟩
        · rw[if_neg c6] at H
          have c6b0:decide (x12_1<(l0.length:Int))=false:=decide_eq_false c6
          clear c6
          replace H:=bE H
          obtain⟨t649,A9,H⟩:=H
          simp only[Option.some.injEq,Prod.mk.injEq] at H
          obtain⟨rfl,rfl⟩:=H
          go_wp2_with (first|(refine g_C 117 ?_;refine gL (some 23) Tryz.func117 #[.slice A0 l0.length c0] ?_;(with_reducible refine(impl_WeakOf.calls ?side1 ?side2 A9.out).mono ?_);(case side1=>have X_:=(Kd.C_below HR0.out HB.out);exact TC);(case side2=>exact HC0.out);rintro e w' ⟨rfl,⟨nd,rfl⟩⟩;refine⟨_,rfl,?_⟩;(try (rw[drewN_self wr];generalize hq_:World.drewN wr _=wr;have n0_:Aside0 (wr.heap[gb647]?=some (.cells #[.int .i64 0,.int .i64 0] 96 (0,0))):=⟨by rw[← hq_];exact TK⟩;have n1_:Aside0 (Below w.heap.size w wr):=⟨by rw[← hq_];exact TB⟩;clear BK647 HB hq_;have BK647:=n0_;have HB:=n1_;clear n0_ n1_));obtain⟨hcz10_0,hcz10_1⟩:=cz2 BK647.out;obtain⟨hfz10_0,hfz10_1⟩:=fz2 BK647.out))
          refine bodyPost_ret (results_cell_row rfl _ _ gb647 96 #[.int .i64 t649,.int .i64 x3_1] (0,0) _ rfl (blk_put (blk_put (cs:=#[.int .i64 0,.int .i64 0]) (TZ BK647) 0 _ rfl) 1 _ rfl) Tryz.underlying96 rfl (by kernel_rfl)) rfl ?_
          exact⟨TE,TB⟩
def impl_BuildOk_1.f (a:Int):Option (Bool):=some (a != 0)
theorem impl_BuildOk_1.calls {a0:Int}{r:Bool}{w:World}(h:impl_BuildOk_1.f a0=some r):
    Calls Tryz.prog 99 #[.int .u8 a0] w fun e w'=>e=.returned (.bool r)∧Drawn0 w w':=by
  have H:=h
  clear h
  unfold impl_BuildOk_1.f at H
  obtain rfl:=o_I H
  go_enter Tryz.func99,Tryz.ntmps99
  go_wp2
  go_ret
  exact⟨by first|rfl|(simp;done)|(simp [*];done),TD⟩
def slices_IndexFunc_byte_byte.l0 :Nat→List Int→Int→Int→Option (Int)
  |0,_,_,_=>none
  |k+1,b,d,a=>if a<d then (if 0≤a then (if a<(b.length:Int) then ((impl_BuildOk_1.f (rd b a)).bind fun c=>(if c=true then (some a) else (slices_IndexFunc_byte_byte.l0 k b d (wrap64 (a+1))))) else (none)) else (none)) else (some (-1))
def slices_IndexFunc_byte_byte.f (k:Nat)(a:List Int):Option (Int):=slices_IndexFunc_byte_byte.l0 k a (a.length:Int) 0
theorem slices_IndexFunc_byte_byte.mono_l :∀k,(∀a b c,LeO (slices_IndexFunc_byte_byte.l0 k a b c) (slices_IndexFunc_byte_byte.l0 (k+1) a b c))
  |0=>fun _ _ _ r h=>by simp [slices_IndexFunc_byte_byte.l0] at h
  | k+1=>by
    have ih0:=slices_IndexFunc_byte_byte.mono_l k
    · intro y0 y1 y2
      unfold slices_IndexFunc_byte_byte.l0
      exact LM
theorem slices_IndexFunc_byte_byte.mono :∀a k,LeO (slices_IndexFunc_byte_byte.f k a) (slices_IndexFunc_byte_byte.f (k+1) a):=by
  intro a0 k;have ih0:=slices_IndexFunc_byte_byte.mono_l k;unfold slices_IndexFunc_byte_byte.f;exact LM
theorem slices_IndexFunc_byte_byte.calls {k:Nat}{A0:Option Addr}{c0:Nat}{l0:List Int}{r:Int}{w:World}(hr0:Kd.C (Kd.int .u8) w A0 l0.length l0)(hc0:l0.length≤c0)(h:slices_IndexFunc_byte_byte.f k l0=some r):
    Calls Tryz.prog 120 #[.slice A0 l0.length c0,.func (.func 99) #[] #[]] w fun e w'=>e=.returned (.int .i64 r)∧Drawn0 w w':=by
  have HR0:=aM hr0
  have HC0:=aM hc0
  clear hr0 hc0
  have H:=h
  clear h
  unfold slices_IndexFunc_byte_byte.f at H
  have H':=aM H
  clear H
  go_enter Tryz.func120,Tryz.ntmps120
  go_wp2
  go_loopg [8] k (fun kq v8 w'=>∃(x8_1:Int),v8=.int .i64 x8_1∧Aside0 (slices_IndexFunc_byte_byte.l0 kq l0 (l0.length:Int) x8_1=some r)∧Aside0 (kq≤k)∧Drawn0 w w')
  case atStart=>exact⟨(0),TF,H',⟨Nat.le_refl _⟩,TD⟩
  case round=>
    clear H'
    try clear c1
    try clear p2
    obtain⟨x8_1,rfl,HA,HK1,⟨m1,rfl⟩⟩:=hrel
    cases gk with
    |zero=>exact absurd HA.out (by simp [slices_IndexFunc_byte_byte.l0])
    | succ k1=>
      have H:=HA.out
      clear HA
      simp only[slices_IndexFunc_byte_byte.l0] at H
      by_cases c3:x8_1<(l0.length:Int)
      · rw[if_pos c3] at H
        have c3b0:decide (x8_1<(l0.length:Int))=true:=decide_eq_true c3
        clear c3
        replace H:=ifN H
        obtain⟨c4,H⟩:=H
        have c4b0:decide (0≤x8_1)=true:=decide_eq_true c4
        clear c4
        replace H:=ifN H
        obtain⟨c5,H⟩:=H
        have c5b0:decide (x8_1<(l0.length:Int))=true:=decide_eq_true c5
        clear c5
        replace H:=bE H
        obtain⟨t651,A6,H⟩:=H
        have p650:0≤(x8_1:Int):=DT
        have q650:x8_1<(l0.length:Int):=DT
        obtain⟨ad650,e650,hx650_0⟩:=Kd.at_int HR0.out x8_1 p650 q650
        cases e650
        replace p650:=eq_true p650
        replace q650:=eq_true q650
        by_cases c7:t651=true
        · subst c7
          replace H:=ifT H
          obtain rfl:=o_I H
          go_wp2_with (first|(go_at_call 99;(with_reducible refine(impl_BuildOk_1.calls A6.out).mono ?_);rintro e w' ⟨rfl,⟨nd,rfl⟩⟩))
          go_ret
          exact⟨by first|rfl|(simp;done)|(simp [*];done),TD⟩
        · replace c7:=b_F c7
          subst c7
          replace H:=ifF H
          have H':=aM H
          clear H
          go_wp2_with (first|(go_at_call 99;(with_reducible refine(impl_BuildOk_1.calls A6.out).mono ?_);rintro e w' ⟨rfl,⟨nd,rfl⟩⟩))
          go_roundg k1
          case measure=>have:=HK1.out;omega
          case rel=>exact⟨(wrap64 (x8_1+1)),TF,H',⟨by have:=HK1.out;omega⟩,TD⟩
      · rw[if_neg c3] at H
        have c3b0:decide (x8_1<(l0.length:Int))=false:=decide_eq_false c3
        clear c3
        obtain rfl:=o_I H
        go_wp2
        go_ret
        exact⟨by first|rfl|(simp;done)|(simp [*];done),TD⟩
def slices_ContainsFunc_byte_byte.f (k:Nat)(b:List Int):Option (Bool):=(slices_IndexFunc_byte_byte.f k b).bind fun a=>(some (decide (a≥0)))
theorem slices_ContainsFunc_byte_byte.mono :∀a k,LeO (slices_ContainsFunc_byte_byte.f k a) (slices_ContainsFunc_byte_byte.f (k+1) a):=by
  intro a0 k;have m0_:=@slices_IndexFunc_byte_byte.mono;unfold slices_ContainsFunc_byte_byte.f;exact LM
theorem slices_ContainsFunc_byte_byte.calls {k:Nat}{A0:Option Addr}{c0:Nat}{l0:List Int}{r:Bool}{w:World}(hr0:Kd.C (Kd.int .u8) w A0 l0.length l0)(hc0:l0.length≤c0)(h:slices_ContainsFunc_byte_byte.f k l0=some r):
  Calls Tryz.prog 98 #[.slice A0 l0.length c0,.func (.func 99) #[] #[]] w fun e w'=>e=.returned (.bool r)∧Drawn0 w w':=by
 have HR0:=aM hr0;have HC0:=aM hc0;clear hr0 hc0;have H:=h;clear h;unfold slices_ContainsFunc_byte_byte.f at H;replace H:=bE H;obtain⟨t652,A3,H⟩:=H;obtain rfl:=o_I H;go_enter Tryz.func98,Tryz.ntmps98;go_wp2_with (first|(refine g_C 120 ?_;refine gL (some 7) Tryz.func120 #[.slice A0 l0.length c0,.func (.func 99) #[] #[]] ?_;(with_reducible refine(slices_IndexFunc_byte_byte.calls ?side1 ?side2 A3.out).mono ?_);(case side1=>have X_:=HR0.out;exact TC);(case side2=>exact HC0.out);rintro e w' ⟨rfl,⟨nd,rfl⟩⟩;refine⟨_,rfl,?_⟩))
 go_ret
 exact⟨by first|rfl|(simp;done)|(simp [*];done),TD⟩
theorem Zq25_0 {p:Prop}(h:p:=by repeat (first|exact(Kd.C_below aj.out TB)|(with_reducible refine Kd.C_alloc ?_ _)|(with_reducible refine Kd.C_drewN ?_ _)|(with_reducible refine Kd.C_drew ?_))):p:=h
theorem Zq25_1 {p:Prop}(h:p:=by have X_:=(Kd.R_reads' HOq1.out).2.2;exact TC):p:=h
mutual
def impl_ManOk.j0 :Nat→Bool→Int→Int→Int→List (S96)→Option (Bool)
  |0,_,_,_,_,_=>none
  |k+1,e,b,c,d,a=>if e=true then (some false) else (impl_ManOk.l0 k a (a.length:Int) 0 b c d a)
def impl_ManOk.l0 :Nat→List (S96)→Int→Int→Int→Int→Int→List (S96)→Option (Bool)
  |0,_,_,_,_,_,_,_=>none
  |k+1,e,i,a,f,b,c,g=>if a<i then (if 0≤a then (if a<(e.length:Int) then ((impl_BytesOf.f k ((rd_T96 e a).f1)).bind fun d=>((impl_SpanOf.f b c a).bind fun h=>(if d.2=true then (if (d.1.length:Int)=h.2 then ((impl_WeakOf.f k d.1).bind fun j=>(if j=((rd_T96 e a).f0) then (impl_ManOk.l0 k e i (wrap64 (a+1)) f b c g) else (some false))) else (some false)) else (some false)))) else (none)) else (none)) else (some true)
end
def impl_ManOk.f (k:Nat)(c:Int)(a:Int)(b:Int)(d:List (S96)):Option (Bool):=(impl_isZeroMan.f c a b d).bind fun e=>(if e=true then (some true) else ((impl_within.f c 1 1000000).bind fun f=>(if f=true then ((impl_SizeOk.f a b).bind fun g=>(if g=true then ((impl_Blocks.f a b).bind fun h=>(impl_ManOk.j0 k ((d.length:Int) != h) c a b d)) else (impl_ManOk.j0 k true c a b d))) else (impl_ManOk.j0 k true c a b d))))
theorem impl_ManOk.mono_l :∀k,(∀a b c d e,LeO (impl_ManOk.j0 k a b c d e) (impl_ManOk.j0 (k+1) a b c d e))∧(∀a b c d e f g,LeO (impl_ManOk.l0 k a b c d e f g) (impl_ManOk.l0 (k+1) a b c d e f g))
  |0=>⟨fun _ _ _ _ _ r h=>by simp [impl_ManOk.j0] at h,fun _ _ _ _ _ _ _ r h=>by simp [impl_ManOk.l0] at h⟩
  | k+1=>by
    have m0_:=@impl_BytesOf.mono
    have m1_:=@impl_WeakOf.mono
    obtain⟨ih0,ih1⟩:=impl_ManOk.mono_l k
    refine⟨?_,?_⟩
    · intro y0 y1 y2 y3 y4
      unfold impl_ManOk.j0
      exact LM
    · intro y0 y1 y2 y3 y4 y5 y6
      unfold impl_ManOk.l0
      exact LM
theorem impl_ManOk.mono :∀a b c d k,LeO (impl_ManOk.f k a b c d) (impl_ManOk.f (k+1) a b c d):=by
  intro a0 a1 a2 a3 k;have m0_:=@impl_BytesOf.mono;have m1_:=@impl_WeakOf.mono;obtain⟨ih0,ih1⟩:=impl_ManOk.mono_l k;unfold impl_ManOk.f;exact LM
theorem impl_ManOk.calls {k:Nat}{ae:Int}{ad:Int}{ac:Int}{ak:Option Addr}{ah:Nat}{ab:List (S96)}{r:Bool}{w:World}(aL:Kd.C k96 w ak ab.length ab)(aN:ab.length≤ah)(h:impl_ManOk.f k ae ad ac ab=some r):
  Calls Tryz.prog 92 #[.agg #[.int .i64 ae,.int .i64 ad,.int .i64 ac,.slice ak ab.length ah]] w fun e w'=>e=.returned (.bool r)∧Below w.heap.size w w':=by
 have huq1:=Tryz.underlying45;have huq2:=Tryz.underlying96;have aj:=aM aL;have al:=aM aN;clear aL aN;have HB:=aM (Below.refl w.heap.size w);have H:=h;clear h;unfold impl_ManOk.f at H;replace H:=bE H;obtain⟨t618,Aq1,H⟩:=H;go_enter Tryz.func92,Tryz.ntmps92;go_wp2_with (first|(refine g_D 1 ?_;(try (refine gate_guard (by rfl) ?_;dsimp only));refine gBx 1 #[.int .i64 ae,.int .i64 ad,.int .i64 ac,.slice ak ab.length ah] 45 ?_;intro aF hg wq1 hbox hb;have aa:=aM (hbox);have GWq1:=gW HB hg;have GEq1:=gW HB hg;replace HB:=bS HB hb;clear hb hbox hg;obtain⟨an,am,ao,ap⟩:=cz4 aa.out;obtain⟨aC,aw,aq,az⟩:=fz4 aa.out)|(refine g_C 115 ?_;refine g_D 10 ?_;generalize hG_:wpList _ _ _ _ _ _=G_))
 repeat (go_quiet (first|(refine g_D 1 ?_;(try (refine gate_guard (by rfl) ?_;dsimp only));refine gBx 1 #[.int .i64 ae,.int .i64 ad,.int .i64 ac,.slice ak ab.length ah] 45 ?_;intro aF hg wq1 hbox hb;have aa:=aM (hbox);have GWq1:=gW HB hg;have GEq1:=gW HB hg;replace HB:=bS HB hb;clear hb hbox hg;obtain⟨an,am,ao,ap⟩:=cz4 aa.out;obtain⟨aC,aw,aq,az⟩:=fz4 aa.out)|(refine g_C 115 ?_;refine g_D 10 ?_;generalize hG_:wpList _ _ _ _ _ _=G_));try go_wp2_with (first|(refine g_D 1 ?_;(try (refine gate_guard (by rfl) ?_;dsimp only));refine gBx 1 #[.int .i64 ae,.int .i64 ad,.int .i64 ac,.slice ak ab.length ah] 45 ?_;intro aF hg wq1 hbox hb;have aa:=aM (hbox);have GWq1:=gW HB hg;have GEq1:=gW HB hg;replace HB:=bS HB hb;clear hb hbox hg;obtain⟨an,am,ao,ap⟩:=cz4 aa.out;obtain⟨aC,aw,aq,az⟩:=fz4 aa.out)|(refine g_C 115 ?_;refine g_D 10 ?_;generalize hG_:wpList _ _ _ _ _ _=G_)))
 subst hG_
 by_cases cq1:t618=true
 ·subst cq1;replace H:=ifT H;obtain rfl:=o_I H;go_wp2_with (first|(go_at_call 115;(with_reducible refine(impl_isZeroMan.calls ?side1 ?side2 Aq1.out).mono ?_);(case side1=>exact Zq25_0);(case side2=>exact al.out);rintro e wq2 ⟨rfl,hb⟩;replace aa:=mB aa hb;replace HB:=bS HB hb;clear hb))
  repeat (go_quiet (first|(go_at_call 115;(with_reducible refine(impl_isZeroMan.calls ?side1 ?side2 Aq1.out).mono ?_);(case side1=>exact Zq25_0);(case side2=>exact al.out);rintro e wq2 ⟨rfl,hb⟩;replace aa:=mB aa hb;replace HB:=bS HB hb;clear hb));try go_wp2_with (first|(go_at_call 115;(with_reducible refine(impl_isZeroMan.calls ?side1 ?side2 Aq1.out).mono ?_);(case side1=>exact Zq25_0);(case side2=>exact al.out);rintro e wq2 ⟨rfl,hb⟩;replace aa:=mB aa hb;replace HB:=bS HB hb;clear hb)))
  go_ret
  exact⟨TE,TB⟩
 ·replace cq1:=b_F cq1;subst cq1;replace H:=ifF H;have aI:=aM H;clear H;go_upto_region 3 with (first|(go_at_call 115;(with_reducible refine(impl_isZeroMan.calls ?side1 ?side2 Aq1.out).mono ?_);(case side1=>exact Zq25_0);(case side2=>exact al.out);rintro e wq2 ⟨rfl,hb⟩;replace aa:=mB aa hb;replace HB:=bS HB hb;clear hb))
  repeat (go_quiet (first|(go_at_call 115;(with_reducible refine(impl_isZeroMan.calls ?side1 ?side2 Aq1.out).mono ?_);(case side1=>exact Zq25_0);(case side2=>exact al.out);rintro e wq2 ⟨rfl,hb⟩;replace aa:=mB aa hb;replace HB:=bS HB hb;clear hb));go_upto_region 3 with (first|(go_at_call 115;(with_reducible refine(impl_isZeroMan.calls ?side1 ?side2 Aq1.out).mono ?_);(case side1=>exact Zq25_0);(case side2=>exact al.out);rintro e wq2 ⟨rfl,hb⟩;replace aa:=mB aa hb;replace HB:=bS HB hb;clear hb)))
  (try simp only[NP])
  go_cut [33] (fun vq1 wc=>∃(kq:Nat) (xq1:Bool),vq1=.bool xq1∧Aside0 (impl_ManOk.j0 kq xq1 ae ad ac ab=some r)∧Aside0 (kq≤k)∧Aside0 (wc.heap[aF]?=some (.cells #[.int .i64 ae,.int .i64 ad,.int .i64 ac,(.slice ak ab.length ah)] 45 (0,0)))∧Aside0 (Below w.heap.size w wc))
  case first=>
   have H:=aI.out;clear aI;replace H:=bE H;obtain⟨t619,Aq2,H⟩:=H
   by_cases cq2:t619=true
   ·subst cq2;replace H:=ifT H;replace H:=bE H;obtain⟨t620,Aq3,H⟩:=H
    by_cases cq3:t620=true
    ·subst cq3;replace H:=ifT H;replace H:=bE H;obtain⟨aH,Aq4,H⟩:=H;have H':=aM H;clear H;obtain⟨aA,ax,au,ay⟩:=cz4 aa.out;obtain⟨aB,ar,av,aD⟩:=fz4 aa.out;go_wp2_with (first|(go_at_call 106;(with_reducible refine(impl_within.calls Aq2.out).mono ?_);rintro e w' ⟨rfl,⟨nd,rfl⟩⟩;(try first|exact⟨rfl,_,World.drewN_drewN _ _ _⟩|exact⟨rfl,_,Eq.trans (World.drewN_drewN _ _ _) (congrArg (World.drewN _) (Nat.add_assoc _ _ _))⟩))|(go_at_call 67;(with_reducible refine(impl_SizeOk.calls Aq3.out).mono ?_);rintro e w' ⟨rfl,⟨nd,rfl⟩⟩;(try first|exact⟨rfl,_,World.drewN_drewN _ _ _⟩|exact⟨rfl,_,Eq.trans (World.drewN_drewN _ _ _) (congrArg (World.drewN _) (Nat.add_assoc _ _ _))⟩))|(go_at_call 68;(with_reducible refine(impl_Blocks.calls Aq4.out).mono ?_);rintro e w' ⟨rfl,⟨nd,rfl⟩⟩;(try first|exact⟨rfl,_,World.drewN_drewN _ _ _⟩|exact⟨rfl,_,Eq.trans (World.drewN_drewN _ _ _) (congrArg (World.drewN _) (Nat.add_assoc _ _ _))⟩)))
     repeat (go_quiet (first|(go_at_call 106;(with_reducible refine(impl_within.calls Aq2.out).mono ?_);rintro e w' ⟨rfl,⟨nd,rfl⟩⟩;(try first|exact⟨rfl,_,World.drewN_drewN _ _ _⟩|exact⟨rfl,_,Eq.trans (World.drewN_drewN _ _ _) (congrArg (World.drewN _) (Nat.add_assoc _ _ _))⟩))|(go_at_call 67;(with_reducible refine(impl_SizeOk.calls Aq3.out).mono ?_);rintro e w' ⟨rfl,⟨nd,rfl⟩⟩;(try first|exact⟨rfl,_,World.drewN_drewN _ _ _⟩|exact⟨rfl,_,Eq.trans (World.drewN_drewN _ _ _) (congrArg (World.drewN _) (Nat.add_assoc _ _ _))⟩))|(go_at_call 68;(with_reducible refine(impl_Blocks.calls Aq4.out).mono ?_);rintro e w' ⟨rfl,⟨nd,rfl⟩⟩;(try first|exact⟨rfl,_,World.drewN_drewN _ _ _⟩|exact⟨rfl,_,Eq.trans (World.drewN_drewN _ _ _) (congrArg (World.drewN _) (Nat.add_assoc _ _ _))⟩)));try go_wp2_with (first|(go_at_call 106;(with_reducible refine(impl_within.calls Aq2.out).mono ?_);rintro e w' ⟨rfl,⟨nd,rfl⟩⟩;(try first|exact⟨rfl,_,World.drewN_drewN _ _ _⟩|exact⟨rfl,_,Eq.trans (World.drewN_drewN _ _ _) (congrArg (World.drewN _) (Nat.add_assoc _ _ _))⟩))|(go_at_call 67;(with_reducible refine(impl_SizeOk.calls Aq3.out).mono ?_);rintro e w' ⟨rfl,⟨nd,rfl⟩⟩;(try first|exact⟨rfl,_,World.drewN_drewN _ _ _⟩|exact⟨rfl,_,Eq.trans (World.drewN_drewN _ _ _) (congrArg (World.drewN _) (Nat.add_assoc _ _ _))⟩))|(go_at_call 68;(with_reducible refine(impl_Blocks.calls Aq4.out).mono ?_);rintro e w' ⟨rfl,⟨nd,rfl⟩⟩;(try first|exact⟨rfl,_,World.drewN_drewN _ _ _⟩|exact⟨rfl,_,Eq.trans (World.drewN_drewN _ _ _) (congrArg (World.drewN _) (Nat.add_assoc _ _ _))⟩))))
     go_meet
     case rel=>exact⟨_,(((ab.length:Int) != aH)),TF,H',⟨by first|omega|exact Nat.le_refl _⟩,⟨TK⟩,⟨TB⟩⟩
    ·replace cq3:=b_F cq3;subst cq3;replace H:=ifF H;have H':=aM H;clear H;obtain⟨aA,ax,au,ay⟩:=cz4 aa.out;obtain⟨aB,ar,av,aD⟩:=fz4 aa.out;go_wp2_with (first|(go_at_call 106;(with_reducible refine(impl_within.calls Aq2.out).mono ?_);rintro e w' ⟨rfl,⟨nd,rfl⟩⟩;(try first|exact⟨rfl,_,World.drewN_drewN _ _ _⟩|exact⟨rfl,_,Eq.trans (World.drewN_drewN _ _ _) (congrArg (World.drewN _) (Nat.add_assoc _ _ _))⟩))|(go_at_call 67;(with_reducible refine(impl_SizeOk.calls Aq3.out).mono ?_);rintro e w' ⟨rfl,⟨nd,rfl⟩⟩;(try first|exact⟨rfl,_,World.drewN_drewN _ _ _⟩|exact⟨rfl,_,Eq.trans (World.drewN_drewN _ _ _) (congrArg (World.drewN _) (Nat.add_assoc _ _ _))⟩)))
     repeat (go_quiet (first|(go_at_call 106;(with_reducible refine(impl_within.calls Aq2.out).mono ?_);rintro e w' ⟨rfl,⟨nd,rfl⟩⟩;(try first|exact⟨rfl,_,World.drewN_drewN _ _ _⟩|exact⟨rfl,_,Eq.trans (World.drewN_drewN _ _ _) (congrArg (World.drewN _) (Nat.add_assoc _ _ _))⟩))|(go_at_call 67;(with_reducible refine(impl_SizeOk.calls Aq3.out).mono ?_);rintro e w' ⟨rfl,⟨nd,rfl⟩⟩;(try first|exact⟨rfl,_,World.drewN_drewN _ _ _⟩|exact⟨rfl,_,Eq.trans (World.drewN_drewN _ _ _) (congrArg (World.drewN _) (Nat.add_assoc _ _ _))⟩)));try go_wp2_with (first|(go_at_call 106;(with_reducible refine(impl_within.calls Aq2.out).mono ?_);rintro e w' ⟨rfl,⟨nd,rfl⟩⟩;(try first|exact⟨rfl,_,World.drewN_drewN _ _ _⟩|exact⟨rfl,_,Eq.trans (World.drewN_drewN _ _ _) (congrArg (World.drewN _) (Nat.add_assoc _ _ _))⟩))|(go_at_call 67;(with_reducible refine(impl_SizeOk.calls Aq3.out).mono ?_);rintro e w' ⟨rfl,⟨nd,rfl⟩⟩;(try first|exact⟨rfl,_,World.drewN_drewN _ _ _⟩|exact⟨rfl,_,Eq.trans (World.drewN_drewN _ _ _) (congrArg (World.drewN _) (Nat.add_assoc _ _ _))⟩))))
     go_meet
     case rel=>exact⟨_,(true),TF,H',⟨by first|omega|exact Nat.le_refl _⟩,⟨TK⟩,⟨TB⟩⟩
   ·replace cq2:=b_F cq2;subst cq2;replace H:=ifF H;have H':=aM H;clear H;obtain⟨aA,ax,au,ay⟩:=cz4 aa.out;obtain⟨aB,ar,av,aD⟩:=fz4 aa.out;go_wp2_with (first|(go_at_call 106;(with_reducible refine(impl_within.calls Aq2.out).mono ?_);rintro e w' ⟨rfl,⟨nd,rfl⟩⟩;(try first|exact⟨rfl,_,World.drewN_drewN _ _ _⟩|exact⟨rfl,_,Eq.trans (World.drewN_drewN _ _ _) (congrArg (World.drewN _) (Nat.add_assoc _ _ _))⟩)))
    repeat (go_quiet (first|(go_at_call 106;(with_reducible refine(impl_within.calls Aq2.out).mono ?_);rintro e w' ⟨rfl,⟨nd,rfl⟩⟩;(try first|exact⟨rfl,_,World.drewN_drewN _ _ _⟩|exact⟨rfl,_,Eq.trans (World.drewN_drewN _ _ _) (congrArg (World.drewN _) (Nat.add_assoc _ _ _))⟩)));try go_wp2_with (first|(go_at_call 106;(with_reducible refine(impl_within.calls Aq2.out).mono ?_);rintro e w' ⟨rfl,⟨nd,rfl⟩⟩;(try first|exact⟨rfl,_,World.drewN_drewN _ _ _⟩|exact⟨rfl,_,Eq.trans (World.drewN_drewN _ _ _) (congrArg (World.drewN _) (Nat.add_assoc _ _ _))⟩))))
    go_meet
    case rel=>exact⟨_,(true),TF,H',⟨by first|omega|exact Nat.le_refl _⟩,⟨TK⟩,⟨TB⟩⟩
  case rest=>
   clear aI;try clear cq1
   try clear an
   try clear am
   try clear ao
   try clear ap
   try clear aC
   try clear aw
   try clear aq
   try clear az
   obtain⟨kq,xq1,rfl,HA,HJq1,aa,HB⟩:=hcut;cases kq with
   |zero=>exact absurd HA.out (by simp [impl_ManOk.j0])
   | succ kj7=>
    have H:=HA.out;clear HA;simp only[impl_ManOk.j0] at H
    by_cases cq6:xq1=true
    ·subst cq6;replace H:=ifT H;obtain rfl:=o_I H;go_wp2
     repeat (go_quiet (fail);try go_wp2)
     go_ret
     exact⟨TE,TB⟩
    ·replace cq6:=b_F cq6;subst cq6;replace H:=ifF H;have H':=aM H;clear H;obtain⟨aO,a8,bd,aX⟩:=cz4 aa.out;obtain⟨ba,aT,a9,aU⟩:=fz4 aa.out;go_wp2
     repeat (go_quiet (fail);try go_wp2)
     go_loopg [37] kj7 (fun kq vq2 w'=>∃(xq2:Int),vq2=.int .i64 xq2∧Aside0 (impl_ManOk.l0 kq ab (ab.length:Int) xq2 ae ad ac ab=some r)∧Aside0 (kq≤kj7)∧Aside0 (w'.heap[aF]?=some (.cells #[.int .i64 ae,.int .i64 ad,.int .i64 ac,(.slice ak ab.length ah)] 45 (0,0)))∧Aside0 (Below w.heap.size w w'))
     case atStart=>exact⟨(0),TF,H',⟨Nat.le_refl _⟩,⟨TK⟩,⟨TB⟩⟩
     case round=>
      clear H';try clear cq1
      try clear cq6
      try clear aO
      try clear a8
      try clear bd
      try clear aX
      try clear an
      try clear am
      try clear ao
      try clear ap
      try clear ba
      try clear aT
      try clear a9
      try clear aU
      try clear aC
      try clear aw
      try clear aq
      try clear az
      obtain⟨xq2,rfl,HA,HKq1,aa,HB⟩:=hrel;cases gk with
      |zero=>exact absurd HA.out (by simp [impl_ManOk.l0])
      | succ k2=>
       have H:=HA.out;clear HA;simp only[impl_ManOk.l0] at H
       by_cases cq7:xq2<(ab.length:Int)
       ·rw[if_pos cq7] at H;have cq8:decide (xq2<(ab.length:Int))=true:=decide_eq_true cq7;clear cq7;replace H:=ifN H;obtain⟨cq9,H⟩:=H;have cq10:decide (0≤xq2)=true:=decide_eq_true cq9;clear cq9;replace H:=ifN H;obtain⟨cq11,H⟩:=H;have cq12:decide (xq2<(ab.length:Int))=true:=decide_eq_true cq11;clear cq11;replace H:=bE H;obtain⟨⟨tq1,tq2⟩,Aq2,H⟩:=H;dsimp only at H;replace H:=bE H;obtain⟨⟨tq3,tq4⟩,Aq3,H⟩:=H;dsimp only at H;have pq2:0≤(xq2:Int):=DT;have qq1:xq2<(ab.length:Int):=DT;obtain⟨adq1,eq1,aK,aJ⟩:=at_T96 aj.out xq2 pq2 qq1;cases eq1;replace aK:=(HB.out.cell (World.block_lt_of_cell? w _ aK)).trans aK;replace aJ:=(HB.out.cell (World.block_lt_of_cell? w _ aJ)).trans aJ;replace pq2:=eq_true pq2;replace qq1:=eq_true qq1;go_wp2_with (first|(refine g_D 4 ?_;(try (refine gate_guard (by rfl) ?_;dsimp only));refine gBx 4 #[.int .i64 0,.int .i64 0] 96 ?_;intro aE hg wq3 hbox hb;have BKq2:=aM (hbox);have GWq2:=gW HB hg;have GEq2:=gW HB hg;obtain⟨NBq1,NBq2⟩:=nB aa hg;replace aa:=mB aa hb;replace HB:=bS HB hb;clear hb hbox hg;obtain⟨hnbq1,hncq1⟩:=oB NBq2;obtain⟨hczq21,hczq22⟩:=cz2 BKq2.out;obtain⟨hfzq21,hfzq22⟩:=fz2 BKq2.out)|(go_at_call 116;(with_reducible refine(impl_BytesOf.calls Aq2.out).mono ?_);rintro e wq4 ⟨vq3,rfl,hoq1,hb⟩;have HOq1:=aM (Kd.R_lower hoq1 (below_size TB));replace aa:=mB aa hb;replace BKq2:=aM (blk_below (g:=aE) (o:=.cells #[.int .i64 ((rd_T96 ab xq2).f0),.int .i64 ((rd_T96 ab xq2).f1)] 96 (0,0)) (blk_put (blk_put (cs:=#[.int .i64 0,.int .i64 0]) (TZ BKq2) 0 _ rfl) 1 _ rfl) hb);replace HB:=bS HB hb;clear hoq1 hb;obtain⟨hczq23,hczq24,hczq25,hczq26⟩:=cz4 aa.out;obtain⟨hfzq23,hfzq24,hfzq25,hfzq26⟩:=fz4 aa.out)|(refine g_C 108 ?_;refine g_D 54 ?_;generalize hG_:wpList _ _ _ _ _ _=G_))
        repeat (go_quiet (first|(refine g_D 4 ?_;(try (refine gate_guard (by rfl) ?_;dsimp only));refine gBx 4 #[.int .i64 0,.int .i64 0] 96 ?_;intro aE hg wq3 hbox hb;have BKq2:=aM (hbox);have GWq2:=gW HB hg;have GEq2:=gW HB hg;obtain⟨NBq1,NBq2⟩:=nB aa hg;replace aa:=mB aa hb;replace HB:=bS HB hb;clear hb hbox hg;obtain⟨hnbq1,hncq1⟩:=oB NBq2;obtain⟨hczq21,hczq22⟩:=cz2 BKq2.out;obtain⟨hfzq21,hfzq22⟩:=fz2 BKq2.out)|(go_at_call 116;(with_reducible refine(impl_BytesOf.calls Aq2.out).mono ?_);rintro e wq4 ⟨vq3,rfl,hoq1,hb⟩;have HOq1:=aM (Kd.R_lower hoq1 (below_size TB));replace aa:=mB aa hb;replace BKq2:=aM (blk_below (g:=aE) (o:=.cells #[.int .i64 ((rd_T96 ab xq2).f0),.int .i64 ((rd_T96 ab xq2).f1)] 96 (0,0)) (blk_put (blk_put (cs:=#[.int .i64 0,.int .i64 0]) (TZ BKq2) 0 _ rfl) 1 _ rfl) hb);replace HB:=bS HB hb;clear hoq1 hb;obtain⟨hczq23,hczq24,hczq25,hczq26⟩:=cz4 aa.out;obtain⟨hfzq23,hfzq24,hfzq25,hfzq26⟩:=fz4 aa.out)|(refine g_C 108 ?_;refine g_D 54 ?_;generalize hG_:wpList _ _ _ _ _ _=G_));try go_wp2_with (first|(refine g_D 4 ?_;(try (refine gate_guard (by rfl) ?_;dsimp only));refine gBx 4 #[.int .i64 0,.int .i64 0] 96 ?_;intro aE hg wq3 hbox hb;have BKq2:=aM (hbox);have GWq2:=gW HB hg;have GEq2:=gW HB hg;obtain⟨NBq1,NBq2⟩:=nB aa hg;replace aa:=mB aa hb;replace HB:=bS HB hb;clear hb hbox hg;obtain⟨hnbq1,hncq1⟩:=oB NBq2;obtain⟨hczq21,hczq22⟩:=cz2 BKq2.out;obtain⟨hfzq21,hfzq22⟩:=fz2 BKq2.out)|(go_at_call 116;(with_reducible refine(impl_BytesOf.calls Aq2.out).mono ?_);rintro e wq4 ⟨vq3,rfl,hoq1,hb⟩;have HOq1:=aM (Kd.R_lower hoq1 (below_size TB));replace aa:=mB aa hb;replace BKq2:=aM (blk_below (g:=aE) (o:=.cells #[.int .i64 ((rd_T96 ab xq2).f0),.int .i64 ((rd_T96 ab xq2).f1)] 96 (0,0)) (blk_put (blk_put (cs:=#[.int .i64 0,.int .i64 0]) (TZ BKq2) 0 _ rfl) 1 _ rfl) hb);replace HB:=bS HB hb;clear hoq1 hb;obtain⟨hczq23,hczq24,hczq25,hczq26⟩:=cz4 aa.out;obtain⟨hfzq23,hfzq24,hfzq25,hfzq26⟩:=fz4 aa.out)|(refine g_C 108 ?_;refine g_D 54 ?_;generalize hG_:wpList _ _ _ _ _ _=G_)))
        subst hG_
        by_cases aG:tq2=true
        ·subst aG;replace H:=ifT H
         by_cases ai:(tq1.length:Int)=tq4
         ·rw[if_pos ai] at H;have cq15:((tq1.length:Int)==tq4)=true:=beq_iff_eq.mpr ai;have cq16:((tq1.length:Int) != tq4)=false:=bne_eq_false_iff_eq.mpr ai;clear ai;replace H:=bE H;obtain⟨af,Aq4,H⟩:=H
          by_cases ag:af=((rd_T96 ab xq2).f0)
          ·rw[if_pos ag] at H;have cq18:(af==((rd_T96 ab xq2).f0))=true:=beq_iff_eq.mpr ag;have cq19:(af != ((rd_T96 ab xq2).f0))=false:=bne_eq_false_iff_eq.mpr ag;clear ag;have H':=aM H;clear H;go_wp2_with (first|(go_at_call 108;(with_reducible refine(impl_SpanOf.calls Aq3.out).mono ?_);rintro e wq5 ⟨rfl,hb⟩;replace HOq1:=mR HOq1 hb;replace aa:=mB aa hb;replace BKq2:=mB BKq2 hb;replace HB:=bS HB hb;clear hb;obtain⟨Aoq1,coq1,eoq1⟩:=Kd.R_slice HOq1.out;subst eoq1)|(go_at_call 117;(with_reducible refine(impl_WeakOf.calls ?side1 ?side2 Aq4.out).mono ?_);(case side1=>exact Zq25_1);(case side2=>exact(Kd.R_reads' HOq1.out).2.1);rintro e w' ⟨rfl,⟨nd,rfl⟩⟩;(try first|exact⟨rfl,_,World.drewN_drewN _ _ _⟩|exact⟨rfl,_,Eq.trans (World.drewN_drewN _ _ _) (congrArg (World.drewN _) (Nat.add_assoc _ _ _))⟩);obtain⟨hnbq2,hncq2⟩:=oB NBq2;obtain⟨hczq27,hczq28⟩:=cz2 BKq2.out;obtain⟨hfzq27,hfzq28⟩:=fz2 BKq2.out))
           repeat (go_quiet (first|(go_at_call 108;(with_reducible refine(impl_SpanOf.calls Aq3.out).mono ?_);rintro e wq5 ⟨rfl,hb⟩;replace HOq1:=mR HOq1 hb;replace aa:=mB aa hb;replace BKq2:=mB BKq2 hb;replace HB:=bS HB hb;clear hb;obtain⟨Aoq1,coq1,eoq1⟩:=Kd.R_slice HOq1.out;subst eoq1)|(go_at_call 117;(with_reducible refine(impl_WeakOf.calls ?side1 ?side2 Aq4.out).mono ?_);(case side1=>exact Zq25_1);(case side2=>exact(Kd.R_reads' HOq1.out).2.1);rintro e w' ⟨rfl,⟨nd,rfl⟩⟩;(try first|exact⟨rfl,_,World.drewN_drewN _ _ _⟩|exact⟨rfl,_,Eq.trans (World.drewN_drewN _ _ _) (congrArg (World.drewN _) (Nat.add_assoc _ _ _))⟩);obtain⟨hnbq2,hncq2⟩:=oB NBq2;obtain⟨hczq27,hczq28⟩:=cz2 BKq2.out;obtain⟨hfzq27,hfzq28⟩:=fz2 BKq2.out));try go_wp2_with (first|(go_at_call 108;(with_reducible refine(impl_SpanOf.calls Aq3.out).mono ?_);rintro e wq5 ⟨rfl,hb⟩;replace HOq1:=mR HOq1 hb;replace aa:=mB aa hb;replace BKq2:=mB BKq2 hb;replace HB:=bS HB hb;clear hb;obtain⟨Aoq1,coq1,eoq1⟩:=Kd.R_slice HOq1.out;subst eoq1)|(go_at_call 117;(with_reducible refine(impl_WeakOf.calls ?side1 ?side2 Aq4.out).mono ?_);(case side1=>exact Zq25_1);(case side2=>exact(Kd.R_reads' HOq1.out).2.1);rintro e w' ⟨rfl,⟨nd,rfl⟩⟩;(try first|exact⟨rfl,_,World.drewN_drewN _ _ _⟩|exact⟨rfl,_,Eq.trans (World.drewN_drewN _ _ _) (congrArg (World.drewN _) (Nat.add_assoc _ _ _))⟩);obtain⟨hnbq2,hncq2⟩:=oB NBq2;obtain⟨hczq27,hczq28⟩:=cz2 BKq2.out;obtain⟨hfzq27,hfzq28⟩:=fz2 BKq2.out)))
           go_roundg k2
           case measure=>have:=HJq1.out;have:=HKq1.out;omega
           case rel=>exact⟨(wrap64 (xq2+1)),TF,H',⟨by have:=HJq1.out;have:=HKq1.out;omega⟩,⟨TK⟩,⟨TB⟩⟩
          ·rw[if_neg ag] at H;have cq18:(af==((rd_T96 ab xq2).f0))=false:=beq_eq_false_iff_ne.mpr ag;have cq19:(af != ((rd_T96 ab xq2).f0))=true:=bne_iff_ne.mpr ag;obtain rfl:=o_I H;go_wp2_with (first|(go_at_call 108;(with_reducible refine(impl_SpanOf.calls Aq3.out).mono ?_);rintro e wq5 ⟨rfl,hb⟩;replace HOq1:=mR HOq1 hb;replace aa:=mB aa hb;replace BKq2:=mB BKq2 hb;replace HB:=bS HB hb;clear hb;obtain⟨Aoq1,coq1,eoq1⟩:=Kd.R_slice HOq1.out;subst eoq1)|(go_at_call 117;(with_reducible refine(impl_WeakOf.calls ?side1 ?side2 Aq4.out).mono ?_);(case side1=>exact Zq25_1);(case side2=>exact(Kd.R_reads' HOq1.out).2.1);rintro e w' ⟨rfl,⟨nd,rfl⟩⟩;(try first|exact⟨rfl,_,World.drewN_drewN _ _ _⟩|exact⟨rfl,_,Eq.trans (World.drewN_drewN _ _ _) (congrArg (World.drewN _) (Nat.add_assoc _ _ _))⟩);obtain⟨hnbq2,hncq2⟩:=oB NBq2;obtain⟨hczq27,hczq28⟩:=cz2 BKq2.out;obtain⟨hfzq27,hfzq28⟩:=fz2 BKq2.out))
           repeat (go_quiet (first|(go_at_call 108;(with_reducible refine(impl_SpanOf.calls Aq3.out).mono ?_);rintro e wq5 ⟨rfl,hb⟩;replace HOq1:=mR HOq1 hb;replace aa:=mB aa hb;replace BKq2:=mB BKq2 hb;replace HB:=bS HB hb;clear hb;obtain⟨Aoq1,coq1,eoq1⟩:=Kd.R_slice HOq1.out;subst eoq1)|(go_at_call 117;(with_reducible refine(impl_WeakOf.calls ?side1 ?side2 Aq4.out).mono ?_);(case side1=>exact Zq25_1);(case side2=>exact(Kd.R_reads' HOq1.out).2.1);rintro e w' ⟨rfl,⟨nd,rfl⟩⟩;(try first|exact⟨rfl,_,World.drewN_drewN _ _ _⟩|exact⟨rfl,_,Eq.trans (World.drewN_drewN _ _ _) (congrArg (World.drewN _) (Nat.add_assoc _ _ _))⟩);obtain⟨hnbq2,hncq2⟩:=oB NBq2;obtain⟨hczq27,hczq28⟩:=cz2 BKq2.out;obtain⟨hfzq27,hfzq28⟩:=fz2 BKq2.out));try go_wp2_with (first|(go_at_call 108;(with_reducible refine(impl_SpanOf.calls Aq3.out).mono ?_);rintro e wq5 ⟨rfl,hb⟩;replace HOq1:=mR HOq1 hb;replace aa:=mB aa hb;replace BKq2:=mB BKq2 hb;replace HB:=bS HB hb;clear hb;obtain⟨Aoq1,coq1,eoq1⟩:=Kd.R_slice HOq1.out;subst eoq1)|(go_at_call 117;(with_reducible refine(impl_WeakOf.calls ?side1 ?side2 Aq4.out).mono ?_);(case side1=>exact Zq25_1);(case side2=>exact(Kd.R_reads' HOq1.out).2.1);rintro e w' ⟨rfl,⟨nd,rfl⟩⟩;(try first|exact⟨rfl,_,World.drewN_drewN _ _ _⟩|exact⟨rfl,_,Eq.trans (World.drewN_drewN _ _ _) (congrArg (World.drewN _) (Nat.add_assoc _ _ _))⟩);obtain⟨hnbq2,hncq2⟩:=oB NBq2;obtain⟨hczq27,hczq28⟩:=cz2 BKq2.out;obtain⟨hfzq27,hfzq28⟩:=fz2 BKq2.out)))
           go_ret
           exact⟨TE,TB⟩
         ·rw[if_neg ai] at H;have cq15:((tq1.length:Int)==tq4)=false:=beq_eq_false_iff_ne.mpr ai;have cq16:((tq1.length:Int) != tq4)=true:=bne_iff_ne.mpr ai;obtain rfl:=o_I H;go_wp2_with (first|(go_at_call 108;(with_reducible refine(impl_SpanOf.calls Aq3.out).mono ?_);rintro e wq5 ⟨rfl,hb⟩;replace HOq1:=mR HOq1 hb;replace aa:=mB aa hb;replace BKq2:=mB BKq2 hb;replace HB:=bS HB hb;clear hb;obtain⟨Aoq1,coq1,eoq1⟩:=Kd.R_slice HOq1.out;subst eoq1))
          repeat (go_quiet (first|(go_at_call 108;(with_reducible refine(impl_SpanOf.calls Aq3.out).mono ?_);rintro e wq5 ⟨rfl,hb⟩;replace HOq1:=mR HOq1 hb;replace aa:=mB aa hb;replace BKq2:=mB BKq2 hb;replace HB:=bS HB hb;clear hb;obtain⟨Aoq1,coq1,eoq1⟩:=Kd.R_slice HOq1.out;subst eoq1));try go_wp2_with (first|(go_at_call 108;(with_reducible refine(impl_SpanOf.calls Aq3.out).mono ?_);rintro e wq5 ⟨rfl,hb⟩;replace HOq1:=mR HOq1 hb;replace aa:=mB aa hb;replace BKq2:=mB BKq2 hb;replace HB:=bS HB hb;clear hb;obtain⟨Aoq1,coq1,eoq1⟩:=Kd.R_slice HOq1.out;subst eoq1)))
          go_ret
          exact⟨TE,TB⟩
        ·replace aG:=b_F aG;subst aG;replace H:=ifF H;obtain rfl:=o_I H;go_wp2_with (first|(go_at_call 108;(with_reducible refine(impl_SpanOf.calls Aq3.out).mono ?_);rintro e wq5 ⟨rfl,hb⟩;replace HOq1:=mR HOq1 hb;replace aa:=mB aa hb;replace BKq2:=mB BKq2 hb;replace HB:=bS HB hb;clear hb))
         repeat (go_quiet (first|(go_at_call 108;(with_reducible refine(impl_SpanOf.calls Aq3.out).mono ?_);rintro e wq5 ⟨rfl,hb⟩;replace HOq1:=mR HOq1 hb;replace aa:=mB aa hb;replace BKq2:=mB BKq2 hb;replace HB:=bS HB hb;clear hb));try go_wp2_with (first|(go_at_call 108;(with_reducible refine(impl_SpanOf.calls Aq3.out).mono ?_);rintro e wq5 ⟨rfl,hb⟩;replace HOq1:=mR HOq1 hb;replace aa:=mB aa hb;replace BKq2:=mB BKq2 hb;replace HB:=bS HB hb;clear hb)))
         go_ret
         exact⟨TE,TB⟩
       ·rw[if_neg cq7] at H;have cq8:decide (xq2<(ab.length:Int))=false:=decide_eq_false cq7;clear cq7;obtain rfl:=o_I H;go_wp2
        repeat (go_quiet (fail);try go_wp2)
        go_ret
        exact⟨TE,TB⟩
end Go.Proofs.YtjgmkkogmfogbaaGreat.Q
