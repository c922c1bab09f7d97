/- Functions of the program as plain Lean functions, and that a call of each comes to what its function tells. -/
import Derived.Test.YtjgmkkogmfogbaaGreatQ5
set_option maxHeartbeats 40000000
set_option maxRecDepth 100000
namespace Go.Proofs.YtjgmkkogmfogbaaGreat.Q
open Go.RowKit Go.Proofs.YtjgmkkogmfogbaaGreatW.PrintWords Go.Proofs.YtjgmkkogmfogbaaGreatW.PrintLast Go.Proofs.YtjgmkkogmfogbaaGreatW.PrintMore
attribute [local go_sem] min2_int min_two
set_option linter.unusedVariables false
set_option linter.unusedSimpArgs false
attribute [local go_sem high] eqA96
theorem Zq7_0 {p:Prop}(h:p:=by (try simp only[List.map_toArray,List.map_cons,List.map_nil]);first|done|(rw[show((ad.take ((wrap64 (tq1+tq2)):Int).toNat).drop (tq1:Int).toNat).length=((wrap64 (tq1+tq2)).toNat - tq1.toNat) from(by rw[List.length_drop,List.length_take];have h_:((wrap64 (tq1+tq2)):Int)≤(ad.length:Int):=DT;omega)]<;>rfl)|rfl|(simp only[List.length_drop,List.length_take];rfl)):p:=h
theorem Zq7_1 {p:Prop}(h:p:=by repeat (first|exact(Kd.C_below HRq3.out TB)|(with_reducible refine Kd.C_alloc ?_ _)|(with_reducible refine Kd.C_drewN ?_ _)|(with_reducible refine Kd.C_drew ?_))):p:=h
theorem Zq7_2 {p:Prop}(h:p:=by repeat (first|exact(Kd.C_below au.out TB)|(with_reducible refine Kd.C_alloc ?_ _)|(with_reducible refine Kd.C_drewN ?_ _)|(with_reducible refine Kd.C_drew ?_))):p:=h
mutual
def spec_BuildOk.j0 :Nat→Bool→Int→Int→Int→List (S96)→Int→List Int→Option (Bool)
  |0,_,_,_,_,_,_,_=>none
  |k+1,x33,x166000,x166001,x166002,x166003,x167000,x167001=>if x33=true then (some false) else (spec_BuildOk.l0 k 0 x166000 x166001 x166002 x166003 x167000 x167001)
def spec_BuildOk.l0 :Nat→Int→Int→Int→Int→List (S96)→Int→List Int→Option (Bool)
  |0,_,_,_,_,_,_,_=>none
  |k+1,x5,x166000,x166001,x166002,x166003,x167000,x167001=>if x5<(x166003.length:Int) then ((spec_SpanOf.f x166001 x166002 x5).bind fun bt171=>(if 0≤bt171.1 then (if bt171.1≤(wrap64 (bt171.1+bt171.2)) then (if (wrap64 (bt171.1+bt171.2))≤(x167001.length:Int) then ((spec_InSet.f x167000 x5).bind fun t174=>(if t174=true then ((spec_SumOf.f k ((x167001.take ((wrap64 (bt171.1+bt171.2)):Int).toNat).drop (bt171.1:Int).toNat)).bind fun bt175=>(if 0≤x5 then (if (!(bt175.1==((rd_T96 x166003 x5).f0))||(!(bt175.2==((rd_T96 x166003 x5).f1))))=true then (some false) else ((spec_InSet.f x167000 x5).bind fun t178=>(if t178=true then (spec_BuildOk.l0 k (wrap64 (x5+1)) x166000 x166001 x166002 x166003 x167000 x167001) else ((spec_l8Zero.f k ((x167001.take ((wrap64 (bt171.1+bt171.2)):Int).toNat).drop (bt171.1:Int).toNat)).bind fun t179=>(if t179=true then (spec_BuildOk.l0 k (wrap64 (x5+1)) x166000 x166001 x166002 x166003 x167000 x167001) else (some false)))))) else (none))) else ((spec_InSet.f x167000 x5).bind fun t180=>(if t180=true then (spec_BuildOk.l0 k (wrap64 (x5+1)) x166000 x166001 x166002 x166003 x167000 x167001) else ((spec_l8Zero.f k ((x167001.take ((wrap64 (bt171.1+bt171.2)):Int).toNat).drop (bt171.1:Int).toNat)).bind fun t181=>(if t181=true then (spec_BuildOk.l0 k (wrap64 (x5+1)) x166000 x166001 x166002 x166003 x167000 x167001) else (some false))))))) else (none)) else (none)) else (none))) else (some true)
end
def spec_BuildOk.f (k:Nat)(a0_0:Int)(a0_1:Int)(a0_2:Int)(l0_3:List (S96))(a1_0:Int)(l1_1:List Int):Option (Bool):=(spec_ManOk.f k a0_0 a0_1 a0_2 l0_3).bind fun t167=>(if t167=true then ((spec_SetOk.f a1_0).bind fun t168=>(if t168=true then ((spec_AllParts.f a0_0 a0_1 a0_2 l0_3).bind fun t169=>((spec_Without.f a1_0 t169).bind fun t170=>(if t170=0 then (spec_BuildOk.j0 k ((l1_1.length:Int) != a0_2) a0_0 a0_1 a0_2 l0_3 a1_0 l1_1) else (spec_BuildOk.j0 k true a0_0 a0_1 a0_2 l0_3 a1_0 l1_1)))) else (spec_BuildOk.j0 k true a0_0 a0_1 a0_2 l0_3 a1_0 l1_1))) else (spec_BuildOk.j0 k true a0_0 a0_1 a0_2 l0_3 a1_0 l1_1))
theorem spec_BuildOk.mono_l :∀k,(∀y0 y1 y2 y3 y4 y5 y6,LeO (spec_BuildOk.j0 k y0 y1 y2 y3 y4 y5 y6) (spec_BuildOk.j0 (k+1) y0 y1 y2 y3 y4 y5 y6))∧(∀y0 y1 y2 y3 y4 y5 y6,LeO (spec_BuildOk.l0 k y0 y1 y2 y3 y4 y5 y6) (spec_BuildOk.l0 (k+1) y0 y1 y2 y3 y4 y5 y6))
  |0=>⟨fun _ _ _ _ _ _ _ r h=>by simp [spec_BuildOk.j0] at h,fun _ _ _ _ _ _ _ r h=>by simp [spec_BuildOk.l0] at h⟩
  | k+1=>by
    have m0_:=@spec_ManOk.mono
    have m1_:=@spec_SumOf.mono
    have m2_:=@spec_l8Zero.mono
    obtain⟨ih0,ih1⟩:=spec_BuildOk.mono_l k
    refine⟨?_,?_⟩
    · intro y0 y1 y2 y3 y4 y5 y6
      unfold spec_BuildOk.j0
      exact LM
    · intro y0 y1 y2 y3 y4 y5 y6
      unfold spec_BuildOk.l0
      exact LM
theorem spec_BuildOk.mono :∀a0 a1 a2 a3 a4 a5 k,LeO (spec_BuildOk.f k a0 a1 a2 a3 a4 a5) (spec_BuildOk.f (k+1) a0 a1 a2 a3 a4 a5):=by
  intro a0 a1 a2 a3 a4 a5 k;have m0_:=@spec_ManOk.mono;have m1_:=@spec_SumOf.mono;have m2_:=@spec_l8Zero.mono;obtain⟨ih0,ih1⟩:=spec_BuildOk.mono_l k;unfold spec_BuildOk.f;exact LM
def spec_BuildOk.T1 :Bool×List (List Nat×List Nat):=(true,[([],[]),([0],[0]),([1],[1]),([2,1],[2]),([3],[3]),([4,3],[3,4]),([5,3,3],[3,5]),([6,3],[3,6]),([3,7],[3,7]),([8,6],[8]),([9],[9]),([10,9],[9,10]),([9],[9]),([12,9,9],[9,12]),([11,13,13,9],[9,11,13]),([14,9],[9,14]),([9,15],[9,15]),([16,14],[16]),([17],[17]),([18,17],[17,18]),([19,17],[17,19]),([17],[17]),([21,17],[17,21]),([20,22,17],[17,20,22]),([17,23],[17,23])])
def spec_BuildOk.B1 :List Nat:=[0,1,3,7,15,31,63,127,255,511,1023,2047,1023,5119,16383,32767,65535,131071,262143,524287,1048575,262143,2359295,8388607,16777215]
theorem spec_BuildOk.tab1 :rtab .any (opsOf Tryz.f51 1)=spec_BuildOk.T1:=by kernel_rfl
theorem spec_BuildOk.bits1 :waitsOk spec_BuildOk.T1.2 spec_BuildOk.B1=true:=by kernel_rfl
def spec_BuildOk.T8 :Bool×List (List Nat×List Nat):=(true,[([],[]),([0],[0]),([],[]),([1,2],[1,2]),([3,3],[3]),([4],[4]),([5,4,4],[4,5]),([4],[4]),([7,4],[4,7]),([4],[4]),([8,9,4],[4,8,9]),([10,4],[4,10]),([6,11,4],[4,6,11]),([4,12],[4,12]),([13,6],[13]),([14],[14]),([15,14],[14,15]),([14],[14]),([16,17,14,14],[14,16,17]),([18,14],[14,18]),([19,18,14],[14,19]),([20],[20]),([21,20,20],[20,21]),([22,20],[20,22]),([20,23,14],[14,20,23]),([14,24],[14,24])])
def spec_BuildOk.B8 :List Nat:=[0,1,0,7,15,31,63,31,159,31,927,1951,4095,8191,16383,32767,65535,32767,262143,524287,1048575,2097151,4194303,8388607,16777215,33554431]
theorem spec_BuildOk.tab8 :rtab .any (opsOf Tryz.f51 8)=spec_BuildOk.T8:=by kernel_rfl
theorem spec_BuildOk.bits8 :waitsOk spec_BuildOk.T8.2 spec_BuildOk.B8=true:=by kernel_rfl
theorem Yq7_1 {p:Prop}(h:p:=by
 try go_wp2
 go_roundg k2
 case measure=>have:=aq.out;have:=ar.out;omega
 case rel=>exact⟨(wrap64 (xq2+1)),TF,H',⟨by have:=aq.out;have:=ar.out;omega⟩,⟨TK⟩,⟨TK⟩,⟨TB⟩⟩):p:=h
theorem Yq7_0 {p:Prop}(h:p:=by
 refine ppq 16 25 ?_;refine ppq 17 26 ?_;refine pxq 18 27 ?_;refine pxq 19 28 ?_;refine pxq 20 29 ?_;refine pxq 21 30 ?_;refine pxq 22 31 ?_;refine pxq 23 32 ?_;refine ppq 24 33 ?_;refine done_ (done_of HT_.out (by kernel_rfl)) ?_;try go_wp2
 go_meet
 case rel=>exact⟨_,(true),TF,H',⟨by first|omega|exact Nat.le_refl _⟩,⟨TK⟩,⟨TK⟩,⟨TB⟩⟩):p:=h
theorem spec_BuildOk.calls {k:Nat}{ah:Int}{ag:Int}{af:Int}{am:Option Addr}{al:Nat}{ac:List (S96)}{ae:Int}{an:Option Addr}{ak:Nat}{ad:List Int}{r:Bool}{w:World}(aV:Kd.C k96 w am ac.length ac)(aW:ac.length≤al)(aX:Kd.C (Kd.int .u8) w an ad.length ad)(aU:ad.length≤ak)(h:spec_BuildOk.f k ah ag af ac ae ad=some r):
  Calls Tryz.prog 51 #[.agg #[.int .i64 ah,.int .i64 ag,.int .i64 af,.slice am ac.length al],.agg #[.int .i64 ae,.slice an ad.length ak]] w fun e w'=>e=.returned (.bool r)∧Below w.heap.size w w':=by
 have huq1:=Tryz.underlying45;have huq2:=Tryz.underlying47;have huq3:=Tryz.underlying96;have au:=aM aV;have az:=aM aW;clear aV aW;have aT:=aM aX;have aS:=aM aU;clear aX aU;have HB:=aM (Below.refl w.heap.size w);have H:=h;clear h;unfold spec_BuildOk.f at H;have aR:=aM H;clear H;go_enter Tryz.func51,Tryz.ntmps51;go_upto_region 1 with (first|(refine g_D 2 ?_;(try (refine gate_guard (by rfl) ?_;dsimp only));refine gBx 2 #[.int .i64 ah,.int .i64 ag,.int .i64 af,.slice am ac.length al] 45 ?_;intro aB hg wq1 hbox hb;have aa:=aM (hbox);have GWq1:=gW HB hg;have GEq1:=gW HB hg;replace HB:=bS HB hb;clear hb hbox hg)|(refine g_D 3 ?_;(try (refine gate_guard (by rfl) ?_;dsimp only));refine gBx 3 #[.int .i64 ae,.slice an ad.length ak] 47 ?_;intro gbq2 hg wq2 hbox hb;have ab:=aM (hbox);have GWq2:=gW HB hg;have GEq2:=gW HB hg;obtain⟨NBq1,NBq2⟩:=nB aa hg;replace aa:=mB aa hb;replace HB:=bS HB hb;clear hb hbox hg))
 (try simp only[NP])
 go_cut [33] (fun vq1 wc=>∃(kq:Nat) (xq1:Bool),vq1=.bool xq1∧Aside0 (spec_BuildOk.j0 kq xq1 ah ag af ac ae ad=some r)∧Aside0 (kq≤k)∧Aside0 (wc.heap[aB]?=some (.cells #[.int .i64 ah,.int .i64 ag,.int .i64 af,(.slice am ac.length al)] 45 (0,0)))∧Aside0 (wc.heap[gbq2]?=some (.cells #[.int .i64 ae,(.slice an ad.length ak)] 47 (0,0)))∧Aside0 (Below w.heap.size w wc))
 case first=>
  have H:=aR.out;clear aR;replace H:=bE H;obtain⟨t167,Aq1,H⟩:=H
  by_cases cq1:t167=true
  ·subst cq1;replace H:=ifT H;replace H:=bE H;obtain⟨t168,Aq2,H⟩:=H
   by_cases cq2:t168=true
   ·subst cq2;replace H:=ifT H;replace H:=bE H;obtain⟨ay,Aq3,H⟩:=H;replace H:=bE H;obtain⟨ax,Aq4,H⟩:=H
    by_cases cq3:ax=0
    ·rw[if_pos cq3] at H;have cq4:(ax==0)=true:=beq_iff_eq.mpr cq3;have cq5:(ax != 0)=false:=bne_eq_false_iff_eq.mpr cq3;clear cq3;(first|rw[cq4]|(simp only[i64_w,i32_w];rw[cq4])|skip);have H':=aM H;clear H;try go_wp2
     replace aa:=bD aa;replace ab:=bD ab;replace HB:=aM (below_drew1 HB.out);refine st_ (n:=25) (ds:=[]) (Array.replicate 25 false) (hJ4 aa.out (hK2 ab.out)) (by kernel_rfl) rfl rfl (fun hHeld=>?_);refine with_tabW spec_BuildOk.tab1 spec_BuildOk.bits1 (fun HT_ HW_=>?_);generalize wq2.drew=wq3 at aa ab HB hHeld ⊢;refine ptq 0 9 ?_;refine poq 1 10 (fun K hK=>?_);refine gG Tryz.func78 #[.agg #[.int .i64 ah,.int .i64 ag,.int .i64 af,.slice am ac.length al]] ?_;with_reducible refine(spec_ManOk.calls ?side1 ?side2 Aq1.out).mono ?_
     (case side1=>have X_:=(Kd.C_below au.out HB.out);exact TC);(case side2=>exact az.out);rintro e wq4 ⟨rfl,hb⟩;refine⟨_,rfl,?_⟩;replace aa:=mB aa hb;replace ab:=mB ab hb;replace HB:=bS HB hb;(try clear hb);refine hK.out _ _ (cJ4 aa.out (cK2 ab.out)) (fun hHeld=>?_);clear hK K;refine nR ?_;refine ppq 2 11 ?_;refine ppq 3 12 ?_;refine ppq 4 13 ?_;refine ptq 5 14 ?_;refine poq 6 15 (fun K hK=>?_);refine gG Tryz.func79 #[.int .i64 ae] ?_;with_reducible refine(spec_SetOk.calls Aq2.out).mono ?_
     rintro e w' ⟨rfl,⟨nd,rfl⟩⟩;refine⟨_,rfl,?_⟩;refine hK.out _ _ (cJ4 aa.out (cK2 ab.out)) (fun hHeld=>?_);clear hK K;refine nR ?_;refine ppq 7 16 ?_;refine ppq 8 17 ?_;refine ppq 9 18 ?_;refine ppq 10 19 ?_;refine ptq 11 20 ?_;refine ptq 12 21 ?_;refine poq 13 22 (fun K hK=>?_);refine gG Tryz.func81 #[.agg #[.int .i64 ah,.int .i64 ag,.int .i64 af,.slice am ac.length al]] ?_;with_reducible refine(spec_AllParts.calls ?side1 ?side2 Aq3.out).mono ?_
     (case side1=>exact Zq7_2);(case side2=>exact az.out);rintro e wq5 ⟨rfl,hb⟩;refine⟨_,rfl,?_⟩;replace aa:=mB aa hb;replace ab:=mB ab hb;replace HB:=bS HB hb;(try clear hb);refine hK.out _ _ (cJ4 aa.out (cK2 ab.out)) (fun hHeld=>?_);clear hK K;refine nR ?_;refine poq 14 23 (fun K hK=>?_);refine gG Tryz.func80 #[.int .i64 ae,.int .i64 ay] ?_;with_reducible refine(spec_Without.calls Aq4.out).mono ?_
     rintro e w' ⟨rfl,⟨nd,rfl⟩⟩;refine⟨_,rfl,?_⟩;refine hK.out _ _ (cJ4 aa.out (cK2 ab.out)) (fun hHeld=>?_);clear hK K;refine nR ?_;refine ppq 15 24 ?_;refine ppq 16 25 ?_;refine ppq 17 26 ?_;refine ppq 18 27 ?_;refine ppq 21 30 ?_;refine ptq 19 28 ?_;refine ppq 20 29 ?_;refine ptq 22 31 ?_;refine ppq 23 32 ?_;refine ppq 24 33 ?_;refine done_ (done_of HT_.out (by kernel_rfl)) ?_;try go_wp2
     go_meet
     case rel=>exact⟨_,(((ad.length:Int) != af)),TF,H',⟨by first|omega|exact Nat.le_refl _⟩,⟨TK⟩,⟨TK⟩,⟨TB⟩⟩
    ·rw[if_neg cq3] at H;have cq4:(ax==0)=false:=beq_eq_false_iff_ne.mpr cq3;have cq5:(ax != 0)=true:=bne_iff_ne.mpr cq3;(first|rw[cq4]|(simp only[i64_w,i32_w];rw[cq4])|skip);have H':=aM H;clear H;try go_wp2
     replace aa:=bD aa;replace ab:=bD ab;replace HB:=aM (below_drew1 HB.out);refine st_ (n:=25) (ds:=[]) (Array.replicate 25 false) (hJ4 aa.out (hK2 ab.out)) (by kernel_rfl) rfl rfl (fun hHeld=>?_);refine with_tabW spec_BuildOk.tab1 spec_BuildOk.bits1 (fun HT_ HW_=>?_);generalize wq2.drew=wq3 at aa ab HB hHeld ⊢;refine ptq 0 9 ?_;refine poq 1 10 (fun K hK=>?_);refine gG Tryz.func78 #[.agg #[.int .i64 ah,.int .i64 ag,.int .i64 af,.slice am ac.length al]] ?_;with_reducible refine(spec_ManOk.calls ?side1 ?side2 Aq1.out).mono ?_
     (case side1=>have X_:=(Kd.C_below au.out HB.out);exact TC);(case side2=>exact az.out);rintro e wq4 ⟨rfl,hb⟩;refine⟨_,rfl,?_⟩;replace aa:=mB aa hb;replace ab:=mB ab hb;replace HB:=bS HB hb;(try clear hb);refine hK.out _ _ (cJ4 aa.out (cK2 ab.out)) (fun hHeld=>?_);clear hK K;refine nR ?_;refine ppq 2 11 ?_;refine ppq 3 12 ?_;refine ppq 4 13 ?_;refine ptq 5 14 ?_;refine poq 6 15 (fun K hK=>?_);refine gG Tryz.func79 #[.int .i64 ae] ?_;with_reducible refine(spec_SetOk.calls Aq2.out).mono ?_
     rintro e w' ⟨rfl,⟨nd,rfl⟩⟩;refine⟨_,rfl,?_⟩;refine hK.out _ _ (cJ4 aa.out (cK2 ab.out)) (fun hHeld=>?_);clear hK K;refine nR ?_;refine ppq 7 16 ?_;refine ppq 8 17 ?_;refine ppq 9 18 ?_;refine ppq 10 19 ?_;refine ptq 11 20 ?_;refine ptq 12 21 ?_;refine poq 13 22 (fun K hK=>?_);refine gG Tryz.func81 #[.agg #[.int .i64 ah,.int .i64 ag,.int .i64 af,.slice am ac.length al]] ?_;with_reducible refine(spec_AllParts.calls ?side1 ?side2 Aq3.out).mono ?_
     (case side1=>exact Zq7_2);(case side2=>exact az.out);rintro e wq5 ⟨rfl,hb⟩;refine⟨_,rfl,?_⟩;replace aa:=mB aa hb;replace ab:=mB ab hb;replace HB:=bS HB hb;(try clear hb);refine hK.out _ _ (cJ4 aa.out (cK2 ab.out)) (fun hHeld=>?_);clear hK K;refine nR ?_;refine poq 14 23 (fun K hK=>?_);refine gG Tryz.func80 #[.int .i64 ae,.int .i64 ay] ?_;with_reducible refine(spec_Without.calls Aq4.out).mono ?_
     rintro e w' ⟨rfl,⟨nd,rfl⟩⟩;refine⟨_,rfl,?_⟩;refine hK.out _ _ (cJ4 aa.out (cK2 ab.out)) (fun hHeld=>?_);clear hK K;refine nR ?_;refine ppq 15 24 ?_;exact Yq7_0
   ·replace cq2:=b_F cq2;subst cq2;replace H:=ifF H;have H':=aM H;clear H;try go_wp2
    replace aa:=bD aa;replace ab:=bD ab;replace HB:=aM (below_drew1 HB.out);refine st_ (n:=25) (ds:=[]) (Array.replicate 25 false) (hJ4 aa.out (hK2 ab.out)) (by kernel_rfl) rfl rfl (fun hHeld=>?_);refine with_tabW spec_BuildOk.tab1 spec_BuildOk.bits1 (fun HT_ HW_=>?_);generalize wq2.drew=wq3 at aa ab HB hHeld ⊢;refine ptq 0 9 ?_;refine poq 1 10 (fun K hK=>?_);refine gG Tryz.func78 #[.agg #[.int .i64 ah,.int .i64 ag,.int .i64 af,.slice am ac.length al]] ?_;with_reducible refine(spec_ManOk.calls ?side1 ?side2 Aq1.out).mono ?_
    (case side1=>have X_:=(Kd.C_below au.out HB.out);exact TC);(case side2=>exact az.out);rintro e wq4 ⟨rfl,hb⟩;refine⟨_,rfl,?_⟩;replace aa:=mB aa hb;replace ab:=mB ab hb;replace HB:=bS HB hb;(try clear hb);refine hK.out _ _ (cJ4 aa.out (cK2 ab.out)) (fun hHeld=>?_);clear hK K;refine nR ?_;refine ppq 2 11 ?_;refine ppq 3 12 ?_;refine ppq 4 13 ?_;refine ptq 5 14 ?_;refine poq 6 15 (fun K hK=>?_);refine gG Tryz.func79 #[.int .i64 ae] ?_;with_reducible refine(spec_SetOk.calls Aq2.out).mono ?_
    rintro e w' ⟨rfl,⟨nd,rfl⟩⟩;refine⟨_,rfl,?_⟩;refine hK.out _ _ (cJ4 aa.out (cK2 ab.out)) (fun hHeld=>?_);clear hK K;refine nR ?_;refine ppq 7 16 ?_;refine ppq 8 17 ?_;refine ppq 9 18 ?_;refine pxq 10 19 ?_;refine pxq 11 20 ?_;refine pxq 12 21 ?_;refine pxq 13 22 ?_;refine pxq 14 23 ?_;refine pxq 15 24 ?_;exact Yq7_0
  ·replace cq1:=b_F cq1;subst cq1;replace H:=ifF H;have H':=aM H;clear H;try go_wp2
   replace aa:=bD aa;replace ab:=bD ab;replace HB:=aM (below_drew1 HB.out);refine st_ (n:=25) (ds:=[]) (Array.replicate 25 false) (hK4 aa.out) (by kernel_rfl) rfl rfl (fun hHeld=>?_);refine with_tabW spec_BuildOk.tab1 spec_BuildOk.bits1 (fun HT_ HW_=>?_);generalize wq2.drew=wq3 at aa ab HB hHeld ⊢;refine ptq 0 9 ?_;refine poq 1 10 (fun K hK=>?_);refine gG Tryz.func78 #[.agg #[.int .i64 ah,.int .i64 ag,.int .i64 af,.slice am ac.length al]] ?_;with_reducible refine(spec_ManOk.calls ?side1 ?side2 Aq1.out).mono ?_
   (case side1=>have X_:=(Kd.C_below au.out HB.out);exact TC);(case side2=>exact az.out);rintro e wq4 ⟨rfl,hb⟩;refine⟨_,rfl,?_⟩;replace aa:=mB aa hb;replace ab:=mB ab hb;replace HB:=bS HB hb;(try clear hb);refine hK.out _ _ (cz4 aa.out) (fun hHeld=>?_);clear hK K;refine nR ?_;refine ppq 2 11 ?_;refine ppq 3 12 ?_;refine pxq 4 13 ?_;refine pxq 5 14 ?_;refine pxq 6 15 ?_;refine pxq 7 16 ?_;refine ppq 8 17 ?_;refine ppq 9 18 ?_;refine pxq 10 19 ?_;refine pxq 11 20 ?_;refine pxq 12 21 ?_;refine pxq 13 22 ?_;refine pxq 14 23 ?_;refine pxq 15 24 ?_;exact Yq7_0
 case rest=>
  clear aR;obtain⟨kq,xq1,rfl,HA,aq,aa,ab,HB⟩:=hcut;cases kq with
  |zero=>exact absurd HA.out (by simp [spec_BuildOk.j0])
  | succ kj2=>
   have H:=HA.out;clear HA;simp only[spec_BuildOk.j0] at H
   by_cases cq5:xq1=true
   ·subst cq5;replace H:=ifT H;obtain rfl:=o_I H;go_wp2
    go_ret
    exact⟨TE,TB⟩
   ·replace cq5:=b_F cq5;subst cq5;replace H:=ifF H;have H':=aM H;clear H;go_wp2
    go_loopg [5] kj2 (fun kq vq2 w'=>∃(xq2:Int),vq2=.int .i64 xq2∧Aside0 (spec_BuildOk.l0 kq xq2 ah ag af ac ae ad=some r)∧Aside0 (kq≤kj2)∧Aside0 (w'.heap[aB]?=some (.cells #[.int .i64 ah,.int .i64 ag,.int .i64 af,(.slice am ac.length al)] 45 (0,0)))∧Aside0 (w'.heap[gbq2]?=some (.cells #[.int .i64 ae,(.slice an ad.length ak)] 47 (0,0)))∧Aside0 (Below w.heap.size w w'))
    case atStart=>exact⟨(0),TF,H',⟨Nat.le_refl _⟩,⟨TK⟩,⟨TK⟩,⟨TB⟩⟩
    case round=>
     clear H';try clear cq5
     obtain⟨xq2,rfl,HA,ar,aa,ab,HB⟩:=hrel;cases gk with
     |zero=>exact absurd HA.out (by simp [spec_BuildOk.l0])
     | succ k2=>
      have H:=HA.out;clear HA;simp only[spec_BuildOk.l0] at H
      by_cases cq7:xq2<(ac.length:Int)
      ·rw[if_pos cq7] at H;have cq8:decide (xq2<(ac.length:Int))=true:=decide_eq_true cq7;clear cq7;replace H:=bE H;obtain⟨⟨tq1,tq2⟩,Aq1,H⟩:=H;dsimp only at H;replace H:=ifN H;obtain⟨cq9,H⟩:=H;have cq10:=eq_true cq9;have cq11:decide (0≤tq1)=true:=decide_eq_true cq9;clear cq9;replace H:=ifN H;obtain⟨cq12,H⟩:=H;have cq13:=eq_true cq12;have cq14:decide (tq1≤(wrap64 (tq1+tq2)))=true:=decide_eq_true cq12;replace H:=ifN H;obtain⟨cq15,H⟩:=H;have cq16:=eq_true cq15;have cq17:decide ((wrap64 (tq1+tq2))≤(ad.length:Int))=true:=decide_eq_true cq15;replace H:=bE H;obtain⟨t174,Aq2,H⟩:=H
       by_cases aL:t174=true
       ·subst aL;replace H:=ifT H;replace H:=bE H;obtain⟨⟨tq3,tq4⟩,Aq3,H⟩:=H;dsimp only at H;replace H:=ifN H;obtain⟨av,H⟩:=H;have aC:decide (0≤xq2)=true:=decide_eq_true av;clear av
        by_cases aA:(!(tq3==((rd_T96 ac xq2).f0))||(!(tq4==((rd_T96 ac xq2).f1))))=true
        ·rw[if_pos aA] at H;have cq22:(!(tq3==((rd_T96 ac xq2).f0))||(!(tq4==((rd_T96 ac xq2).f1))))=true:=aA;clear aA;obtain rfl:=o_I H;obtain⟨aK,aO⟩:=oB NBq1;obtain⟨aF,aD,aH,aG⟩:=cz4 aa.out;obtain⟨aP,aJ,aI,aN⟩:=fz4 aa.out;try go_wp2_with (first|(refine g_C 56 ?_;refine gL (some 47) Tryz.func56 #[.int .i64 ag,.int .i64 af,.int .i64 xq2] ?_;(with_reducible refine(spec_SpanOf.calls Aq1.out).mono ?_);rintro e w' ⟨rfl,⟨nd,rfl⟩⟩;refine⟨_,rfl,?_⟩;obtain⟨hczq5,hczq6⟩:=cz2 ab.out;obtain⟨hfzq5,hfzq6⟩:=fz2 ab.out;obtain⟨iq1,hiq1,_,hszq1,_⟩:=info_parts info5;obtain⟨Aq4,hcutq1,hAq1,hCq1⟩:=print_mid_of (P:=Tryz.prog) (Value.int .u8) 0 22 5 .i64 .i64 Tryz.underlying22 hiq1 hszq1 an ak ad tq1 (wrap64 (tq1+tq2)) DT (by first|omega|exact DT) DT aS.out;have HRq3:=aM (Kd.C_of_reads (h1:=fun _=>rfl) (hAq1 _ (Kd.reads_of_C aT.out)));have HCq4:=aM hCq1;clear hAq1 hCq1 hiq1 hszq1))
         (try (rw[drewN_self wr];generalize hq_:World.drewN wr _=wr;have n0_:Aside0 (wr.heap[aB]?=some (.cells #[.int .i64 ah,.int .i64 ag,.int .i64 af,.slice am ac.length al] 45 (0,0))):=⟨by rw[← hq_];exact TK⟩;have n1_:Aside0 (wr.heap[gbq2]?=some (.cells #[.int .i64 ae,.slice an ad.length ak] 47 (0,0))):=⟨by rw[← hq_];exact TK⟩;have n2_:Aside0 (Below w.heap.size w wr):=⟨by rw[← hq_];exact TB⟩;clear aa ab HB hq_;have aa:=n0_;have ab:=n1_;have HB:=n2_;clear n0_ n1_ n2_));replace aa:=bD aa;replace ab:=bD ab;replace HB:=aM (below_drew1 HB.out);have pq2:0≤(xq2:Int):=DT;have qq1:xq2<(ac.length:Int):=DT;obtain⟨adq1,eq1,ap,ao⟩:=at_T96 au.out xq2 pq2 qq1;have aj:=ao;have ai:=ap;cases eq1;replace ap:=(HB.out.cell (World.block_lt_of_cell? w _ ap)).trans ap;replace ao:=(HB.out.cell (World.block_lt_of_cell? w _ ao)).trans ao;replace pq2:=eq_true pq2;replace qq1:=eq_true qq1;refine st_ (n:=26) (ds:=[]) (Array.replicate 26 false) (hJ2 ab.out (hJ4 aa.out (hX (b_W HB ai) (hE (b_W HB aj))))) (by kernel_rfl) rfl rfl (fun hHeld=>?_);refine with_tabW spec_BuildOk.tab8 spec_BuildOk.bits8 (fun HT_ HW_=>?_);generalize wr.drew=wq3 at aa ab HB ap ao hHeld ⊢;refine ppq 0 57 ?_;refine ppq 2 59 ?_;refine ptq 1 58 ?_;refine poq 3 60 (fun K hK=>?_);refine gG Tryz.func82 #[.int .i64 ae,.int .i64 xq2] ?_;with_reducible refine(spec_InSet.calls Aq2.out).mono ?_
         rintro e w' ⟨rfl,⟨nd,rfl⟩⟩;refine⟨_,rfl,?_⟩;refine hK.out _ _ (cJ2 ab.out (cJ4 aa.out ⟨(b_W HB ai),(b_W HB aj)⟩)) (fun hHeld=>?_);clear hK K;refine nR ?_;refine ppq 4 61 ?_;refine ppq 5 62 ?_;refine ppq 7 64 ?_;refine ppq 9 66 ?_;refine ptq 8 65 ?_;refine ppq 10 67 ?_;refine ptq 11 68 ?_;refine poq 6 63 (fun K hK=>?_);refine goes_ Tryz.func83 (by kernel_rfl) rfl #[.slice Aq4 ((ad.take ((wrap64 (tq1+tq2)):Int).toNat).drop (tq1:Int).toNat).length (ak - tq1.toNat)] (by rfl) rfl rfl (by exact Zq7_0) ?_;with_reducible refine(spec_SumOf.calls ?side1 ?side2 Aq3.out).mono ?_
         (case side1=>exact Zq7_1);(case side2=>exact HCq4.out);rintro e wq4 ⟨rfl,hb⟩;refine⟨_,rfl,?_⟩;replace aa:=mB aa hb;replace ab:=mB ab hb;replace HB:=bS HB hb;(try clear hb);refine hK.out _ _ (cJ2 ab.out (cJ4 aa.out ⟨(b_W HB ai),(b_W HB aj)⟩)) (fun hHeld=>?_);clear hK K;refine nR ?_;refine ppq 12 69 ?_;refine ppq 13 70 ?_;refine ppq 14 71 ?_;refine pxq 15 72 ?_;refine pxq 16 73 ?_;refine pxq 17 74 ?_;refine pxq 18 75 ?_;refine pxq 19 76 ?_;refine pxq 20 77 ?_;refine pxq 21 78 ?_;refine pxq 22 79 ?_;refine pxq 23 80 ?_;refine pxq 24 81 ?_;refine ppq 25 82 ?_;refine done_ (done_of HT_.out (by kernel_rfl)) ?_;try go_wp2
         go_ret
         exact⟨TE,TB⟩
        ·rw[if_neg aA] at H;have cq22:(!(tq3==((rd_T96 ac xq2).f0))||(!(tq4==((rd_T96 ac xq2).f1))))=false:=by simpa using aA
         clear aA;replace H:=bE H;obtain⟨t178,Aq4,H⟩:=H;obtain⟨aK,aO⟩:=oB NBq1;obtain⟨aF,aD,aH,aG⟩:=cz4 aa.out;obtain⟨aP,aJ,aI,aN⟩:=fz4 aa.out;try go_wp2_with (first|(refine g_C 56 ?_;refine gL (some 47) Tryz.func56 #[.int .i64 ag,.int .i64 af,.int .i64 xq2] ?_;(with_reducible refine(spec_SpanOf.calls Aq1.out).mono ?_);rintro e w' ⟨rfl,⟨nd,rfl⟩⟩;refine⟨_,rfl,?_⟩;obtain⟨hczq5,hczq6⟩:=cz2 ab.out;obtain⟨hfzq5,hfzq6⟩:=fz2 ab.out;obtain⟨iq1,hiq1,_,hszq1,_⟩:=info_parts info5;obtain⟨Aq6z,hcutq1,hAq1,hCq1⟩:=print_mid_of (P:=Tryz.prog) (Value.int .u8) 0 22 5 .i64 .i64 Tryz.underlying22 hiq1 hszq1 an ak ad tq1 (wrap64 (tq1+tq2)) DT (by first|omega|exact DT) DT aS.out;have HRq3:=aM (Kd.C_of_reads (h1:=fun _=>rfl) (hAq1 _ (Kd.reads_of_C aT.out)));have HCq4:=aM hCq1;clear hAq1 hCq1 hiq1 hszq1))
         (try (rw[drewN_self wr];generalize hq_:World.drewN wr _=wr;have n0_:Aside0 (wr.heap[aB]?=some (.cells #[.int .i64 ah,.int .i64 ag,.int .i64 af,.slice am ac.length al] 45 (0,0))):=⟨by rw[← hq_];exact TK⟩;have n1_:Aside0 (wr.heap[gbq2]?=some (.cells #[.int .i64 ae,.slice an ad.length ak] 47 (0,0))):=⟨by rw[← hq_];exact TK⟩;have n2_:Aside0 (Below w.heap.size w wr):=⟨by rw[← hq_];exact TB⟩;clear aa ab HB hq_;have aa:=n0_;have ab:=n1_;have HB:=n2_;clear n0_ n1_ n2_));replace aa:=bD aa;replace ab:=bD ab;replace HB:=aM (below_drew1 HB.out);have pq2:0≤(xq2:Int):=DT;have qq1:xq2<(ac.length:Int):=DT;obtain⟨adq1,eq1,ap,ao⟩:=at_T96 au.out xq2 pq2 qq1;have aj:=ao;have ai:=ap;cases eq1;replace ap:=(HB.out.cell (World.block_lt_of_cell? w _ ap)).trans ap;replace ao:=(HB.out.cell (World.block_lt_of_cell? w _ ao)).trans ao;replace pq2:=eq_true pq2;replace qq1:=eq_true qq1;refine st_ (n:=26) (ds:=[]) (Array.replicate 26 false) (hJ2 ab.out (hJ4 aa.out (hX (b_W HB ai) (hE (b_W HB aj))))) (by kernel_rfl) rfl rfl (fun hHeld=>?_);refine with_tabW spec_BuildOk.tab8 spec_BuildOk.bits8 (fun HT_ HW_=>?_);generalize wr.drew=wq3 at aa ab HB ap ao hHeld ⊢;refine ppq 0 57 ?_;refine ppq 2 59 ?_;refine ptq 1 58 ?_;refine poq 3 60 (fun K hK=>?_);refine gG Tryz.func82 #[.int .i64 ae,.int .i64 xq2] ?_;with_reducible refine(spec_InSet.calls Aq2.out).mono ?_
         rintro e w' ⟨rfl,⟨nd,rfl⟩⟩;refine⟨_,rfl,?_⟩;refine hK.out _ _ (cJ2 ab.out (cJ4 aa.out ⟨(b_W HB ai),(b_W HB aj)⟩)) (fun hHeld=>?_);clear hK K;refine nR ?_;refine ppq 4 61 ?_;refine ppq 5 62 ?_;refine ppq 7 64 ?_;refine ppq 9 66 ?_;refine ptq 8 65 ?_;refine ppq 10 67 ?_;refine ptq 11 68 ?_;refine poq 6 63 (fun K hK=>?_);refine goes_ Tryz.func83 (by kernel_rfl) rfl #[.slice Aq6z ((ad.take ((wrap64 (tq1+tq2)):Int).toNat).drop (tq1:Int).toNat).length (ak - tq1.toNat)] (by rfl) rfl rfl (by exact Zq7_0) ?_;with_reducible refine(spec_SumOf.calls ?side1 ?side2 Aq3.out).mono ?_
         (case side1=>exact Zq7_1);(case side2=>exact HCq4.out);rintro e wq4 ⟨rfl,hb⟩;refine⟨_,rfl,?_⟩;replace aa:=mB aa hb;replace ab:=mB ab hb;replace HB:=bS HB hb;(try clear hb);refine hK.out _ _ (cJ2 ab.out (cJ4 aa.out ⟨(b_W HB ai),(b_W HB aj)⟩)) (fun hHeld=>?_);clear hK K;refine nR ?_;refine ppq 12 69 ?_;refine ppq 13 70 ?_;refine ppq 14 71 ?_;refine ppq 15 72 ?_;refine ppq 17 74 ?_;refine ptq 16 73 ?_;refine poq 18 75 (fun K hK=>?_);refine gG Tryz.func82 #[.int .i64 ae,.int .i64 xq2] ?_;with_reducible refine(spec_InSet.calls Aq4.out).mono ?_
         rintro e w' ⟨rfl,⟨nd,rfl⟩⟩;refine⟨_,rfl,?_⟩;refine hK.out _ _ (cJ2 ab.out (cJ4 aa.out ⟨(b_W HB ai),(b_W HB aj)⟩)) (fun hHeld=>?_);clear hK K;refine nR ?_;refine ppq 19 76 ?_;refine ppq 20 77 ?_
         by_cases aE:t178=true
         ·subst aE;replace H:=ifT H;have H':=aM H;clear H;refine pxq 21 78 ?_;refine pxq 22 79 ?_;refine pxq 23 80 ?_;refine ppq 24 81 ?_;refine ppq 25 82 ?_;refine done_ (done_of HT_.out (by kernel_rfl)) ?_;exact Yq7_1
         ·replace aE:=b_F aE;subst aE;replace H:=ifF H;replace H:=bE H;obtain⟨t179,Aq5,H⟩:=H;refine ppq 21 78 ?_;refine poq 22 79 (fun K hK=>?_);refine goes_ Tryz.func84 (by kernel_rfl) rfl #[.slice Aq6z ((ad.take ((wrap64 (tq1+tq2)):Int).toNat).drop (tq1:Int).toNat).length (ak - tq1.toNat)] (by rfl) rfl rfl (by exact Zq7_0) ?_;with_reducible refine(spec_l8Zero.calls ?side1 ?side2 Aq5.out).mono ?_
          (case side1=>exact Zq7_1);(case side2=>exact HCq4.out);rintro e w' ⟨rfl,⟨nd,rfl⟩⟩;refine⟨_,rfl,?_⟩;refine hK.out _ _ (cJ2 ab.out (cJ4 aa.out ⟨(b_W HB ai),(b_W HB aj)⟩)) (fun hHeld=>?_);clear hK K;refine nR ?_;refine ppq 23 80 ?_;refine ppq 24 81 ?_;refine ppq 25 82 ?_;refine done_ (done_of HT_.out (by kernel_rfl)) ?_
          by_cases aQ:t179=true
          ·subst aQ;replace H:=ifT H;have H':=aM H;clear H;exact Yq7_1
          ·replace aQ:=b_F aQ;subst aQ;replace H:=ifF H;obtain rfl:=o_I H;try go_wp2
           go_ret
           exact⟨TE,TB⟩
       ·replace aL:=b_F aL;subst aL;replace H:=ifF H;replace H:=bE H;obtain⟨t180,Aq3,H⟩:=H;obtain⟨aK,aO⟩:=oB NBq1;obtain⟨aF,aD,aH,aG⟩:=cz4 aa.out;obtain⟨aP,aJ,aI,aN⟩:=fz4 aa.out;try go_wp2_with (first|(refine g_C 56 ?_;refine gL (some 47) Tryz.func56 #[.int .i64 ag,.int .i64 af,.int .i64 xq2] ?_;(with_reducible refine(spec_SpanOf.calls Aq1.out).mono ?_);rintro e w' ⟨rfl,⟨nd,rfl⟩⟩;refine⟨_,rfl,?_⟩;obtain⟨hczq5,hczq6⟩:=cz2 ab.out;obtain⟨hfzq5,hfzq6⟩:=fz2 ab.out;obtain⟨iq1,hiq1,_,hszq1,_⟩:=info_parts info5;obtain⟨Aq5z,hcutq1,hAq1,hCq1⟩:=print_mid_of (P:=Tryz.prog) (Value.int .u8) 0 22 5 .i64 .i64 Tryz.underlying22 hiq1 hszq1 an ak ad tq1 (wrap64 (tq1+tq2)) DT (by first|omega|exact DT) DT aS.out;have HRq3:=aM (Kd.C_of_reads (h1:=fun _=>rfl) (hAq1 _ (Kd.reads_of_C aT.out)));have HCq4:=aM hCq1;clear hAq1 hCq1 hiq1 hszq1))
        (try (rw[drewN_self wr];generalize hq_:World.drewN wr _=wr;have n0_:Aside0 (wr.heap[aB]?=some (.cells #[.int .i64 ah,.int .i64 ag,.int .i64 af,.slice am ac.length al] 45 (0,0))):=⟨by rw[← hq_];exact TK⟩;have n1_:Aside0 (wr.heap[gbq2]?=some (.cells #[.int .i64 ae,.slice an ad.length ak] 47 (0,0))):=⟨by rw[← hq_];exact TK⟩;have n2_:Aside0 (Below w.heap.size w wr):=⟨by rw[← hq_];exact TB⟩;clear aa ab HB hq_;have aa:=n0_;have ab:=n1_;have HB:=n2_;clear n0_ n1_ n2_));replace aa:=bD aa;replace ab:=bD ab;replace HB:=aM (below_drew1 HB.out);refine st_ (n:=26) (ds:=[]) (Array.replicate 26 false) (hK2 ab.out) (by kernel_rfl) rfl rfl (fun hHeld=>?_);refine with_tabW spec_BuildOk.tab8 spec_BuildOk.bits8 (fun HT_ HW_=>?_);generalize wr.drew=wq3 at aa ab HB hHeld ⊢;refine ppq 0 57 ?_;refine ppq 2 59 ?_;refine ptq 1 58 ?_;refine poq 3 60 (fun K hK=>?_);refine gG Tryz.func82 #[.int .i64 ae,.int .i64 xq2] ?_;with_reducible refine(spec_InSet.calls Aq2.out).mono ?_
        rintro e w' ⟨rfl,⟨nd,rfl⟩⟩;refine⟨_,rfl,?_⟩;refine hK.out _ _ (cz2 ab.out) (fun hHeld=>?_);clear hK K;refine nR ?_;refine ppq 4 61 ?_;refine pxq 5 62 ?_;refine pxq 6 63 ?_;refine pxq 7 64 ?_;refine pxq 8 65 ?_;refine pxq 9 66 ?_;refine pxq 10 67 ?_;refine pxq 11 68 ?_;refine pxq 12 69 ?_;refine ppq 13 70 ?_;refine ppq 14 71 ?_;refine ppq 15 72 ?_;refine ppq 17 74 ?_;refine ptq 16 73 ?_;refine poq 18 75 (fun K hK=>?_);refine gG Tryz.func82 #[.int .i64 ae,.int .i64 xq2] ?_;with_reducible refine(spec_InSet.calls Aq3.out).mono ?_
        rintro e w' ⟨rfl,⟨nd,rfl⟩⟩;refine⟨_,rfl,?_⟩;refine hK.out _ _ (cz2 ab.out) (fun hHeld=>?_);clear hK K;refine nR ?_;refine ppq 19 76 ?_;refine ppq 20 77 ?_
        by_cases av:t180=true
        ·subst av;replace H:=ifT H;have H':=aM H;clear H;refine pxq 21 78 ?_;refine pxq 22 79 ?_;refine pxq 23 80 ?_;refine ppq 24 81 ?_;refine ppq 25 82 ?_;refine done_ (done_of HT_.out (by kernel_rfl)) ?_;exact Yq7_1
        ·replace av:=b_F av;subst av;replace H:=ifF H;replace H:=bE H;obtain⟨t181,Aq4,H⟩:=H;refine ppq 21 78 ?_;refine poq 22 79 (fun K hK=>?_);refine goes_ Tryz.func84 (by kernel_rfl) rfl #[.slice Aq5z ((ad.take ((wrap64 (tq1+tq2)):Int).toNat).drop (tq1:Int).toNat).length (ak - tq1.toNat)] (by rfl) rfl rfl (by exact Zq7_0) ?_;with_reducible refine(spec_l8Zero.calls ?side1 ?side2 Aq4.out).mono ?_
         (case side1=>exact Zq7_1);(case side2=>exact HCq4.out);rintro e w' ⟨rfl,⟨nd,rfl⟩⟩;refine⟨_,rfl,?_⟩;refine hK.out _ _ (cz2 ab.out) (fun hHeld=>?_);clear hK K;refine nR ?_;refine ppq 23 80 ?_;refine ppq 24 81 ?_;refine ppq 25 82 ?_;refine done_ (done_of HT_.out (by kernel_rfl)) ?_
         by_cases aC:t181=true
         ·subst aC;replace H:=ifT H;have H':=aM H;clear H;exact Yq7_1
         ·replace aC:=b_F aC;subst aC;replace H:=ifF H;obtain rfl:=o_I H;try go_wp2
          go_ret
          exact⟨TE,TB⟩
      ·rw[if_neg cq7] at H;have cq8:decide (xq2<(ac.length:Int))=false:=decide_eq_false cq7;clear cq7;obtain rfl:=o_I H;obtain⟨aK,aO⟩:=oB NBq1;obtain⟨aF,aD,aH,aG⟩:=cz4 aa.out;obtain⟨aP,aJ,aI,aN⟩:=fz4 aa.out;go_wp2
       go_ret
       exact⟨TE,TB⟩
attribute [local go_sem] min2_int min_two
def spec_Missing.f (a0_0:Int)(a0_1:Int)(a0_2:Int)(l0_3:List (S96))(a1_0:Int)(l1_1:List Int):Option (Int):=(spec_AllParts.f a0_0 a0_1 a0_2 l0_3).bind fun t184=>((spec_Without.f t184 a1_0).bind fun t185=>(some t185))
theorem spec_Missing.calls {a0_0:Int}{a0_1:Int}{a0_2:Int}{A0_3:Option Addr}{c0_3:Nat}{l0_3:List (S96)}{a1_0:Int}{A1_1:Option Addr}{c1_1:Nat}{l1_1:List Int}{r:Int}{w:World}(hr0_3:Kd.C k96 w A0_3 l0_3.length l0_3)(hc0_3:l0_3.length≤c0_3)(hr1_1:Kd.C (Kd.int .u8) w A1_1 l1_1.length l1_1)(hc1_1:l1_1.length≤c1_1)(h:spec_Missing.f a0_0 a0_1 a0_2 l0_3 a1_0 l1_1=some r):
    Calls Tryz.prog 52 #[.agg #[.int .i64 a0_0,.int .i64 a0_1,.int .i64 a0_2,.slice A0_3 l0_3.length c0_3],.agg #[.int .i64 a1_0,.slice A1_1 l1_1.length c1_1]] w fun e w'=>e=.returned (.int .i64 r)∧Below w.heap.size w w':=by
  have hu45:=Tryz.underlying45
  have hu47:=Tryz.underlying47
  have HR0_3:=aM hr0_3
  have HC0_3:=aM hc0_3
  clear hr0_3 hc0_3
  have HR1_1:=aM hr1_1
  have HC1_1:=aM hc1_1
  clear hr1_1 hc1_1
  have HB:=aM (Below.refl w.heap.size w)
  have H:=h
  clear h
  unfold spec_Missing.f at H
  replace H:=bE H
  obtain⟨t184,A3,H⟩:=H
  replace H:=bE H
  obtain⟨t185,A4,H⟩:=H
  obtain rfl:=o_I H
  go_enter Tryz.func52,Tryz.ntmps52
  try go_wp2_with (first|(refine g_D 2 ?_;refine gBx 2 #[.int .i64 a0_0,.int .i64 a0_1,.int .i64 a0_2,.slice A0_3 l0_3.length c0_3] 45 ?_;intro gb182 hg w5 hbox hb;have BK182:=aM (hbox);have GW182:=gW HB hg;have GE182:=gW HB hg;replace HB:=bS HB hb;clear hb hbox hg)|(refine g_D 3 ?_;refine gBx 3 #[.int .i64 a1_0,.slice A1_1 l1_1.length c1_1] 47 ?_;intro gb183 hg w6 hbox hb;have BK183:=aM (hbox);have GW183:=gW HB hg;have GE183:=gW HB hg;obtain⟨NB182_183,NB183_182⟩:=nB BK182 hg;replace BK182:=mB BK182 hb;replace HB:=bS HB hb;clear hb hbox hg))
  replace BK182:=bD BK182
  replace BK183:=bD BK183
  replace HB:=aM (below_drew1 HB.out)
  refine st_ (n:=6) (ds:=[]) (Array.replicate 6 false) (hJ4 BK182.out (hK2 BK183.out)) (by kernel_rfl) rfl rfl (fun hHeld=>?_)
  generalize w6.drew=w7 at BK182 BK183 HB hHeld ⊢
  refine ppq 2 7 ?_
  refine ptq 0 5 ?_
  refine ptq 3 8 ?_
  refine poq 1 6 (fun K hK=>?_)
  refine gG Tryz.func81 #[.agg #[.int .i64 a0_0,.int .i64 a0_1,.int .i64 a0_2,.slice A0_3 l0_3.length c0_3]] ?_
  with_reducible refine(spec_AllParts.calls ?side1 ?side2 A3.out).mono ?_
  (case side1=>have X_:=(Kd.C_below HR0_3.out HB.out);exact TC)
  (case side2=>exact HC0_3.out)
  rintro e w8 ⟨rfl,hb⟩
  refine⟨_,rfl,?_⟩
  replace BK182:=mB BK182 hb
  replace BK183:=mB BK183 hb
  replace HB:=bS HB hb
  (try clear hb)
  (try clear hb2)
  (try clear hk)
  (try clear hi)
  refine hK.out _ _ (cJ4 BK182.out (cK2 BK183.out)) (fun hHeld=>?_)
  clear hK K
  refine nR ?_
  refine poq 4 9 (fun K hK=>?_)
  refine gG Tryz.func80 #[.int .i64 t184,.int .i64 a1_0] ?_
  with_reducible refine(spec_Without.calls A4.out).mono ?_
  rintro e w' ⟨rfl,⟨nd,rfl⟩⟩
  refine⟨_,rfl,?_⟩
  refine hK.out _ _ (cJ4 BK182.out (cK2 BK183.out)) (fun hHeld=>?_)
  clear hK K
  refine nR ?_
  refine ppq 5 4 ?_
  refine done_ (by kernel_rfl) ?_
  try go_wp2
  go_ret
  exact⟨TE,TB⟩
def spec_Whole.f (k:Nat)(a0_0:Int)(a0_1:Int)(a0_2:Int)(l0_3:List (S96))(a1_0:Int)(l1_1:List Int):Option (Bool):=if a0_0=0 then (some false) else ((spec_BuildOk.f k a0_0 a0_1 a0_2 l0_3 a1_0 l1_1).bind fun t188=>(if t188=true then ((spec_Missing.f a0_0 a0_1 a0_2 l0_3 a1_0 l1_1).bind fun t189=>(some (t189==0))) else (some false)))
theorem spec_Whole.mono :∀a0 a1 a2 a3 a4 a5 k,LeO (spec_Whole.f k a0 a1 a2 a3 a4 a5) (spec_Whole.f (k+1) a0 a1 a2 a3 a4 a5):=by
  intro a0 a1 a2 a3 a4 a5 k;have m0_:=@spec_BuildOk.mono;unfold spec_Whole.f;exact LM
theorem spec_Whole.calls {k:Nat}{a0_0:Int}{a0_1:Int}{a0_2:Int}{A0_3:Option Addr}{c0_3:Nat}{l0_3:List (S96)}{a1_0:Int}{A1_1:Option Addr}{c1_1:Nat}{l1_1:List Int}{r:Bool}{w:World}(hr0_3:Kd.C k96 w A0_3 l0_3.length l0_3)(hc0_3:l0_3.length≤c0_3)(hr1_1:Kd.C (Kd.int .u8) w A1_1 l1_1.length l1_1)(hc1_1:l1_1.length≤c1_1)(h:spec_Whole.f k a0_0 a0_1 a0_2 l0_3 a1_0 l1_1=some r):
    Calls Tryz.prog 25 #[.agg #[.int .i64 a0_0,.int .i64 a0_1,.int .i64 a0_2,.slice A0_3 l0_3.length c0_3],.agg #[.int .i64 a1_0,.slice A1_1 l1_1.length c1_1]] w fun e w'=>e=.returned (.bool r)∧Below w.heap.size w w':=by
  have hu45:=Tryz.underlying45
  have hu47:=Tryz.underlying47
  have HR0_3:=aM hr0_3
  have HC0_3:=aM hc0_3
  clear hr0_3 hc0_3
  have HR1_1:=aM hr1_1
  have HC1_1:=aM hc1_1
  clear hr1_1 hc1_1
  have HB:=aM (Below.refl w.heap.size w)
  have H:=h
  clear h
  unfold spec_Whole.f at H
  by_cases c3:a0_0=0
  · rw[if_pos c3] at H
    have c3b0:(a0_0==0)=true:=beq_iff_eq.mpr c3
    have c3b1:(a0_0 != 0)=false:=bne_eq_false_iff_eq.mpr c3
    clear c3
    obtain rfl:=o_I H
    go_enter Tryz.func25,Tryz.ntmps25
    go_wp2_with (first|(refine g_D 2 ?_;refine gBx 2 #[.int .i64 a0_0,.int .i64 a0_1,.int .i64 a0_2,.slice A0_3 l0_3.length c0_3] 45 ?_;intro gb186 hg w4 hbox hb;have BK186:=aM (hbox);have GW186:=gW HB hg;have GE186:=gW HB hg;replace HB:=bS HB hb;clear hb hbox hg)|(refine g_D 3 ?_;refine gBx 3 #[.int .i64 a1_0,.slice A1_1 l1_1.length c1_1] 47 ?_;intro gb187 hg w5 hbox hb;have BK187:=aM (hbox);have GW187:=gW HB hg;have GE187:=gW HB hg;obtain⟨NB186_187,NB187_186⟩:=nB BK186 hg;replace BK186:=mB BK186 hb;replace HB:=bS HB hb;clear hb hbox hg;obtain⟨hnb6,hnc6⟩:=oB NB186_187;obtain⟨hcz7_0,hcz7_1,hcz7_2,hcz7_3⟩:=cz4 BK186.out;obtain⟨hfz7_0,hfz7_1,hfz7_2,hfz7_3⟩:=fz4 BK186.out))
    go_ret
    exact⟨TE,TB⟩
  · rw[if_neg c3] at H
    have c3b0:(a0_0==0)=false:=beq_eq_false_iff_ne.mpr c3
    have c3b1:(a0_0 != 0)=true:=bne_iff_ne.mpr c3
    replace H:=bE H
    obtain⟨t188,A8,H⟩:=H
    by_cases c9:t188=true
    · subst c9
      replace H:=ifT H
      replace H:=bE H
      obtain⟨t189,A10,H⟩:=H
      obtain rfl:=o_I H
      go_enter Tryz.func25,Tryz.ntmps25
      go_wp2_with (first|(refine g_D 2 ?_;refine gBx 2 #[.int .i64 a0_0,.int .i64 a0_1,.int .i64 a0_2,.slice A0_3 l0_3.length c0_3] 45 ?_;intro gb186 hg w11 hbox hb;have BK186:=aM (hbox);have GW186:=gW HB hg;have GE186:=gW HB hg;replace HB:=bS HB hb;clear hb hbox hg)|(refine g_D 3 ?_;refine gBx 3 #[.int .i64 a1_0,.slice A1_1 l1_1.length c1_1] 47 ?_;intro gb187 hg w12 hbox hb;have BK187:=aM (hbox);have GW187:=gW HB hg;have GE187:=gW HB hg;obtain⟨NB186_187,NB187_186⟩:=nB BK186 hg;replace BK186:=mB BK186 hb;replace HB:=bS HB hb;clear hb hbox hg;obtain⟨hnb13,hnc13⟩:=oB NB186_187;obtain⟨hcz14_0,hcz14_1,hcz14_2,hcz14_3⟩:=cz4 BK186.out;obtain⟨hfz14_0,hfz14_1,hfz14_2,hfz14_3⟩:=fz4 BK186.out;obtain⟨hcz15_0,hcz15_1⟩:=cz2 BK187.out;obtain⟨hfz15_0,hfz15_1⟩:=fz2 BK187.out)|(go_at_call 51;(with_reducible refine(spec_BuildOk.calls ?side1 ?side2 ?side3 ?side4 A8.out).mono ?_);(case side1=>have X_:=(Kd.C_below HR0_3.out HB.out);exact TC);(case side2=>exact HC0_3.out);(case side3=>have X_:=(Kd.C_below HR1_1.out HB.out);exact TC);(case side4=>exact HC1_1.out);rintro e w16 ⟨rfl,hb⟩;replace BK186:=mB BK186 hb;replace BK187:=mB BK187 hb;replace HB:=bS HB hb;clear hb;obtain⟨hcz17_0,hcz17_1,hcz17_2,hcz17_3⟩:=cz4 BK186.out;obtain⟨hfz17_0,hfz17_1,hfz17_2,hfz17_3⟩:=fz4 BK186.out;obtain⟨hcz18_0,hcz18_1⟩:=cz2 BK187.out;obtain⟨hfz18_0,hfz18_1⟩:=fz2 BK187.out)|(go_at_call 52;(with_reducible refine(spec_Missing.calls ?side1 ?side2 ?side3 ?side4 A10.out).mono ?_);(case side1=>have X_:=(Kd.C_below HR0_3.out HB.out);exact TC);(case side2=>exact HC0_3.out);(case side3=>have X_:=(Kd.C_below HR1_1.out HB.out);exact TC);(case side4=>exact HC1_1.out);rintro e w19 ⟨rfl,hb⟩;replace BK186:=mB BK186 hb;replace BK187:=mB BK187 hb;replace HB:=bS HB hb;clear hb))
      go_ret
      exact⟨TE,TB⟩
    · replace c9:=b_F c9
      subst c9
      replace H:=ifF H
      obtain rfl:=o_I H
      go_enter Tryz.func25,Tryz.ntmps25
      go_wp2_with (first|(refine g_D 2 ?_;refine gBx 2 #[.int .i64 a0_0,.int .i64 a0_1,.int .i64 a0_2,.slice A0_3 l0_3.length c0_3] 45 ?_;intro gb186 hg w20 hbox hb;have BK186:=aM (hbox);have GW186:=gW HB hg;have GE186:=gW HB hg;replace HB:=bS HB hb;clear hb hbox hg)|(refine g_D 3 ?_;refine gBx 3 #[.int .i64 a1_0,.slice A1_1 l1_1.length c1_1] 47 ?_;intro gb187 hg w21 hbox hb;have BK187:=aM (hbox);have GW187:=gW HB hg;have GE187:=gW HB hg;obtain⟨NB186_187,NB187_186⟩:=nB BK186 hg;replace BK186:=mB BK186 hb;replace HB:=bS HB hb;clear hb hbox hg;obtain⟨hnb22,hnc22⟩:=oB NB186_187;obtain⟨hcz23_0,hcz23_1,hcz23_2,hcz23_3⟩:=cz4 BK186.out;obtain⟨hfz23_0,hfz23_1,hfz23_2,hfz23_3⟩:=fz4 BK186.out;obtain⟨hcz24_0,hcz24_1⟩:=cz2 BK187.out;obtain⟨hfz24_0,hfz24_1⟩:=fz2 BK187.out)|(go_at_call 51;(with_reducible refine(spec_BuildOk.calls ?side1 ?side2 ?side3 ?side4 A8.out).mono ?_);(case side1=>have X_:=(Kd.C_below HR0_3.out HB.out);exact TC);(case side2=>exact HC0_3.out);(case side3=>have X_:=(Kd.C_below HR1_1.out HB.out);exact TC);(case side4=>exact HC1_1.out);rintro e w25 ⟨rfl,hb⟩;replace BK186:=mB BK186 hb;replace BK187:=mB BK187 hb;replace HB:=bS HB hb;clear hb))
      go_ret
      exact⟨TE,TB⟩
def spec_Spare.f (l0_0:List Int)(l0_1:List Int)(a0_2:Int)(a0_3:Int)(a0_4:Int)(l0_5:List (S91)):Option (Int):=some (wrap64 (1 - a0_3))
theorem spec_Spare.calls {A0_0:Option Addr}{c0_0:Nat}{l0_0:List Int}{A0_1:Option Addr}{c0_1:Nat}{l0_1:List Int}{a0_2:Int}{a0_3:Int}{a0_4:Int}{A0_5:Option Addr}{c0_5:Nat}{l0_5:List (S91)}{r:Int}{w:World}(hr0_0:Kd.C (Kd.int .u8) w A0_0 l0_0.length l0_0)(hc0_0:l0_0.length≤c0_0)(hr0_1:Kd.C (Kd.int .u8) w A0_1 l0_1.length l0_1)(hc0_1:l0_1.length≤c0_1)(hr0_5:Kd.C k91 w A0_5 l0_5.length l0_5)(hc0_5:l0_5.length≤c0_5)(h:spec_Spare.f l0_0 l0_1 a0_2 a0_3 a0_4 l0_5=some r):
    Calls Tryz.prog 29 #[.agg #[.slice A0_0 l0_0.length c0_0,.slice A0_1 l0_1.length c0_1,.int .i64 a0_2,.int .i64 a0_3,.int .i64 a0_4,.slice A0_5 l0_5.length c0_5]] w fun e w'=>e=.returned (.int .i64 r)∧Below w.heap.size w w':=by
  have hu39:=Tryz.underlying39
  have HR0_0:=aM hr0_0
  have HC0_0:=aM hc0_0
  clear hr0_0 hc0_0
  have HR0_1:=aM hr0_1
  have HC0_1:=aM hc0_1
  clear hr0_1 hc0_1
  have HR0_5:=aM hr0_5
  have HC0_5:=aM hc0_5
  clear hr0_5 hc0_5
  have HB:=aM (Below.refl w.heap.size w)
  have H:=h
  clear h
  unfold spec_Spare.f at H
  obtain rfl:=o_I H
  go_enter Tryz.func29,Tryz.ntmps29
  go_wp2_with (first|(refine g_D 1 ?_;refine gBx 1 #[.slice A0_0 l0_0.length c0_0,.slice A0_1 l0_1.length c0_1,.int .i64 a0_2,.int .i64 a0_3,.int .i64 a0_4,.slice A0_5 l0_5.length c0_5] 39 ?_;intro gb190 hg w2 hbox hb;have BK190:=aM (hbox);have GW190:=gW HB hg;have GE190:=gW HB hg;replace HB:=bS HB hb;clear hb hbox hg;obtain⟨hcz3_0,hcz3_1,hcz3_2,hcz3_3,hcz3_4,hcz3_5⟩:=cz6 BK190.out;obtain⟨hfz3_0,hfz3_1,hfz3_2,hfz3_3,hfz3_4,hfz3_5⟩:=fz6 BK190.out))
  go_ret
  exact⟨TE,TB⟩
def spec_l9CopyPut.f (a0_0:Int)(a0_1:Int)(l0_2:List Int)(a0_3:Int)(a0_4:Int)(a0_5:Int):Option (Int×Int×List Int×Int×Int×Int):=(some (([]:List Int):List Int)).bind fun y194=>(if y194.length+l0_2.length<140737488355328 then (some (a0_0,a0_1,(y194++l0_2),a0_3,a0_4,a0_5)) else (none))
theorem spec_l9CopyPut.calls {a0_0:Int}{a0_1:Int}{A0_2:Option Addr}{c0_2:Nat}{l0_2:List Int}{a0_3:Int}{a0_4:Int}{a0_5:Int}{r1:Int}{r2:Int}{r3:List Int}{r4:Int}{r5:Int}{r6:Int}{w:World}(hr0_2:Kd.C (Kd.int .u8) w A0_2 l0_2.length l0_2)(hc0_2:l0_2.length≤c0_2)(h:spec_l9CopyPut.f a0_0 a0_1 l0_2 a0_3 a0_4 a0_5=some (r1,r2,r3,r4,r5,r6)):
    Calls Tryz.prog 61 #[.agg #[.int .i64 a0_0,.int .i64 a0_1,.slice A0_2 l0_2.length c0_2,.int .i64 a0_3,.int .i64 a0_4,.int .i64 a0_5]] w fun e w'=>∃v2_:Value,e=.returned (.agg #[.int .i64 r1,.int .i64 r2,v2_,.int .i64 r4,.int .i64 r5,.int .i64 r6])∧Kd.R (Kd.int .u8) 5 w' w.heap.size (fun _=>True) v2_ r3∧Below w.heap.size w w':=by
  have hu91:=Tryz.underlying91
  have HR0_2:=aM hr0_2
  have HC0_2:=aM hc0_2
  clear hr0_2 hc0_2
  have HB:=aM (Below.refl w.heap.size w)
  have H:=h
  clear h
  unfold spec_l9CopyPut.f at H
  obtain⟨y194,hy194⟩:∃y_:List Int,y_=(([]:List Int)):=⟨_,rfl⟩
  replace H:=someE H hy194
  have Ny194:=aM hy194
  clear hy194
  replace H:=ifN H
  obtain⟨c2,H⟩:=H
  have LMc2:=aM c2
  clear c2
  obtain⟨y197,hy197⟩:∃y_:List Int,y_=(y194++l0_2):=⟨_,rfl⟩
  rw[← hy197] at H
  have Ny197:=aM hy197
  clear hy197
  simp only[Option.some.injEq,Prod.mk.injEq] at H
  obtain⟨rfl,rfl,rfl,rfl,rfl,rfl⟩:=H
  go_enter Tryz.func61,Tryz.ntmps61
  go_wp2_with (first|(refine g_D 1 ?_;refine gBx 1 #[.int .i64 a0_0,.int .i64 a0_1,.slice A0_2 l0_2.length c0_2,.int .i64 a0_3,.int .i64 a0_4,.int .i64 a0_5] 91 ?_;intro gb191 hg w3 hbox hb;have BK191:=aM (hbox);have GW191:=gW HB hg;have GE191:=gW HB hg;replace HB:=bS HB hb;clear hb hbox hg)|(refine g_D 2 ?_;refine gBx 2 #[.int .i64 0,.int .i64 0,.slice none 0 0,.int .i64 0,.int .i64 0,.int .i64 0] 91 ?_;intro gb192 hg w4 hbox hb;have BK192:=aM (hbox);have GW192:=gW HB hg;have GE192:=gW HB hg;obtain⟨NB191_192,NB192_191⟩:=nB BK191 hg;replace BK191:=mB BK191 hb;replace HB:=bS HB hb;clear hb hbox hg;obtain⟨hnb5,hnc5⟩:=oB NB191_192;obtain⟨hcz6_0,hcz6_1,hcz6_2,hcz6_3,hcz6_4,hcz6_5⟩:=cz6 BK191.out;obtain⟨hfz6_0,hfz6_1,hfz6_2,hfz6_3,hfz6_4,hfz6_5⟩:=fz6 BK191.out)|(refine g_D 3 ?_;refine gBx 3 #[.int .i64 0,.int .i64 0,.slice none 0 0,.int .i64 0,.int .i64 0,.int .i64 0] 91 ?_;intro gb193 hg w7 hbox hb;have BK193:=aM (hbox);have GW193:=gW HB hg;have GE193:=gW HB hg;obtain⟨NB191_193,NB193_191⟩:=nB BK191 hg;obtain⟨NB192_193,NB193_192⟩:=nB BK192 hg;replace BK191:=mB BK191 hb;replace BK192:=mB BK192 hb;replace HB:=bS HB hb;clear hb hbox hg;obtain⟨hnb8,hnc8⟩:=oB NB193_191;obtain⟨hnb9,hnc9⟩:=oB NB193_192;obtain⟨hcz10_0,hcz10_1,hcz10_2,hcz10_3,hcz10_4,hcz10_5⟩:=cz6 BK193.out;obtain⟨hfz10_0,hfz10_1,hfz10_2,hfz10_3,hfz10_4,hfz10_5⟩:=fz6 BK193.out)|(refine g_D 5 ?_;refine Kd.R_lit (Kd.int .u8) _ 5 ?hg (N:=5) ?hd (xs:=([]:List Int)) (inner:=[]) (ok:=fun _=>True) (okp:=fun _=>True) ?hr ?hp (fun _ hk=>hk) trivial (Below.refl _ _) (Nat.le_refl _) (by simp) ?_;(case hd=>rfl);(case hg=>rfl);(case hr=>first|(go_simp;done)|(go_simp;rfl));(case hp=>exact(Reps.none _ _));intro v195 w11 ho12 hb hg_ hnew_;clear hg_ hnew_;(first|rw[← Ny194.out] at ho12|(simp only[Int.reduceToNat] at ho12;rw[← Ny194.out] at ho12));have HO196:=aM (Kd.R_lower ho12 (below_size TB));replace BK191:=mB BK191 hb;replace BK192:=mB BK192 hb;replace BK193:=aM (blk_below (g:=gb193) (o:=.cells #[.int .i64 a0_0,.int .i64 a0_1,.slice A0_2 l0_2.length c0_2,.int .i64 a0_3,.int .i64 a0_4,.int .i64 a0_5] 91 (0,0)) (blk_put (blk_put (blk_put (blk_put (blk_put (blk_put (cs:=#[.int .i64 0,.int .i64 0,.slice none 0 0,.int .i64 0,.int .i64 0,.int .i64 0]) (TZ BK193) 0 _ rfl) 1 _ rfl) 2 _ rfl) 3 _ rfl) 4 _ rfl) 5 _ rfl) hb);replace HB:=bS HB hb;clear hb ho12;obtain⟨hcz13_0,hcz13_1,hcz13_2,hcz13_3,hcz13_4,hcz13_5⟩:=cz6 BK191.out;obtain⟨hfz13_0,hfz13_1,hfz13_2,hfz13_3,hfz13_4,hfz13_5⟩:=fz6 BK191.out)|((with_reducible refine gate_builtin (b:=.append) (xs:=#[.tmp 5,.tmp 7]) rfl ?_);at_builtin;refine Kd.R_append_rows (Kd.int .u8) (w0:=w) w.heap.size rfl (.tmp 5) (.tmp 7) 22 5 (.int .u8 0) 1 rfl Tryz.underlying22 info5 rfl (by decide) (by omega) v195 y194 l0_2 _ _ _ (fun _=>True) (fun _=>False) rfl rfl ?aO ?aR (fun _ _ h=>h) (fun _ h=>h.elim) ?aF ?aB ?aS ?aL ?_;(case aR=>repeat (first|exact(Kd.C_below HR0_2.out HB.out)|(with_reducible refine Kd.C_alloc ?_ _)|(with_reducible refine Kd.C_drewN ?_ _)|(with_reducible refine Kd.C_drew ?_)));(case aB=>exact TB);(case aF=>exact(fun _ _=>trivial));(case aO=>exact(TRf HO196));(case aS=>exact(below_size TB));(case aL=>have:=LMc2.out;omega);intro v198 w14 ho hb hg hat;rw[← Ny197.out] at ho;have HO199:=aM (ho);replace BK191:=aM (blk_grown (g:=gb191) (o:=.cells #[.int .i64 a0_0,.int .i64 a0_1,.slice A0_2 l0_2.length c0_2,.int .i64 a0_3,.int .i64 a0_4,.int .i64 a0_5] 91 (0,0)) TK hg (Kd.R_ne HO196.out BK191.out (by decide)));replace BK192:=aM (blk_grown (g:=gb192) (o:=.cells #[.int .i64 0,.int .i64 0,.slice none 0 0,.int .i64 0,.int .i64 0,.int .i64 0] 91 (0,0)) TK hg (Kd.R_ne HO196.out BK192.out (by decide)));replace BK193:=aM (blk_grown (g:=gb193) (o:=.cells #[.int .i64 a0_0,.int .i64 a0_1,.slice A0_2 l0_2.length c0_2,.int .i64 a0_3,.int .i64 a0_4,.int .i64 a0_5] 91 (0,0)) TK hg (Kd.R_ne HO196.out BK193.out (by decide)));replace HB:=aM (hb);clear HO196;clear ho hb hg hat;obtain⟨Ao15,co15,eo15⟩:=Kd.R_slice HO199.out;subst eo15;obtain⟨hcz16_0,hcz16_1,hcz16_2,hcz16_3,hcz16_4,hcz16_5⟩:=cz6 BK193.out;obtain⟨hfz16_0,hfz16_1,hfz16_2,hfz16_3,hfz16_4,hfz16_5⟩:=fz6 BK193.out;obtain⟨hcz17_0,hcz17_1,hcz17_2,hcz17_3,hcz17_4,hcz17_5⟩:=cz6 BK192.out;obtain⟨hfz17_0,hfz17_1,hfz17_2,hfz17_3,hfz17_4,hfz17_5⟩:=fz6 BK192.out))
  refine bodyPost_ret (results_cell_row rfl _ _ gb192 91 #[.int .i64 a0_0,.int .i64 a0_1,.slice Ao15 y197.length co15,.int .i64 a0_3,.int .i64 a0_4,.int .i64 a0_5] (0,0) _ rfl (blk_put (blk_put (blk_put (blk_put (blk_put (blk_put (cs:=#[.int .i64 0,.int .i64 0,.slice none 0 0,.int .i64 0,.int .i64 0,.int .i64 0]) (TZ BK192) 0 _ rfl) 1 _ rfl) 2 _ rfl) 3 _ rfl) 4 _ rfl) 5 _ rfl) Tryz.underlying91 rfl (by kernel_rfl)) rfl ?_
  exact⟨_,TE,by (with_reducible repeat (first|apply Kd.R_alloc|apply Kd.R_drewN|apply Kd.R_drew));exact Kd.R_mono (RK2 (Kd.R_types (Kd.R_types HO199.out BK193.out (by decide)) BK192.out (by decide))) (fun _ hk=>trivial),TB⟩
def impl_Disk_slot.f (a1:Int)(o:Nat):Option Unit:=if (a1=0∧o=0)∨(¬a1=0∧o=1) then some () else none
theorem impl_Disk_slot.calls {g:Nat}{a1:Int}{o:Nat}(w:World)(h:impl_Disk_slot.f a1 o=some ()):
  Calls Tryz.prog 102 #[.pointer (some ⟨g,0,none⟩),.int .i64 a1] w fun e w'=>e=.returned (.pointer (some ⟨g,o,none⟩))∧Drawn0 w w':=by
 have h:=(ifN h).1
 rcases h with ⟨hn,rfl⟩|⟨hn,rfl⟩
 ·have hnq1:(a1==0)=true:=beq_iff_eq.mpr hn;clear hn;go_enter Tryz.func102,Tryz.ntmps102;go_wp2
  go_ret
  exact⟨rfl,TD⟩
 ·have hnq1:(a1==0)=false:=beq_eq_false_iff_ne.mpr hn;clear hn;go_enter Tryz.func102,Tryz.ntmps102;go_wp2
  go_ret
  exact⟨rfl,TD⟩
/-- A disk's three rows, apart. -/
def Dsk (w:World)(base:Nat)(vA vB vP:Value)(lA lB:List Int)(lP:List S91):Prop:=
 Kd.R (Kd.int .u8) 5 w base (fun k=>some k≠vB.ownBlock) vA lA∧Kd.R (Kd.int .u8) 5 w base (fun k=>some k≠vA.ownBlock) vB lB∧Kd.S k91 91 w base (fun k=>some k≠vA.ownBlock∧some k≠vB.ownBlock) vP lP
section
variable {w w1 : World} {base : Nat} {vA vB vP v1 : Value} {lA lB l1 : List Int} {lP : List S91}
theorem Dsk.below (h:Dsk w base vA vB vP lA lB lP)(hb:Below w.heap.size w w1):Dsk w1 base vA vB vP lA lB lP:=⟨Kd.R_below h.1 hb,Kd.R_below h.2.1 hb,Kd.S_below h.2.2 hb⟩
theorem Dsk.swap (h:Dsk w base vA vB vP lA lB lP):Dsk w base vB vA vP lB lA lP:=⟨h.2.1,h.1,Kd.S_mono h.2.2 (fun _ q=>⟨q.2,q.1⟩)⟩
/-- Behind an append to the first row. -/
theorem Dsk.app (h:Dsk w base vA vB vP lA lB lP)(hg:w.grownBy w1 vA.ownBlock)(hat:v1.ownBlock=vA.ownBlock∨∃b,v1.ownBlock=some b∧w.heap.size≤b)(ho:Kd.R (Kd.int .u8) 5 w1 base (fun k=>some k≠vB.ownBlock) v1 l1):Dsk w1 base v1 vB vP l1 lB lP:=
 ⟨ho,Kd.R_mono (Kd.R_after (ok:=fun _=>True) (Kd.R_mono h.2.1 (fun _ q=>⟨trivial,q⟩)) hg hat) (fun _ q=>q.2),Kd.S_mono (Kd.S_after (ok:=fun k=>some k≠vB.ownBlock) (Kd.S_mono h.2.2 (fun _ q=>⟨q.2,q.1⟩)) hg hat) (fun _ q=>⟨q.2,q.1⟩)⟩
theorem Dsk.app' (h:Dsk w base vA vB vP lA lB lP)(hg:w.grownBy w1 vB.ownBlock)(hat:v1.ownBlock=vB.ownBlock∨∃b,v1.ownBlock=some b∧w.heap.size≤b)(ho:Kd.R (Kd.int .u8) 5 w1 base (fun k=>some k≠vA.ownBlock) v1 l1):Dsk w1 base vA v1 vP lA l1 lP:=(h.swap.app hg hat ho).swap
/-- The first row has been written in place. -/
theorem Dsk.wr (h:Dsk w base vA vB vP lA lB lP)(hk:∀k,some k≠vA.ownBlock→w1.heap[k]?=w.heap[k]?)(ho:Kd.R (Kd.int .u8) 5 w1 base (fun k=>some k≠vB.ownBlock) vA l1):Dsk w1 base vA vB vP l1 lB lP:=
 ⟨ho,Kd.R_move h.2.1 hk,Kd.S_move h.2.2 (fun k q=>hk k q.1)⟩
theorem Dsk.wr' (h:Dsk w base vA vB vP lA lB lP)(hk:∀k,some k≠vB.ownBlock→w1.heap[k]?=w.heap[k]?)(ho:Kd.R (Kd.int .u8) 5 w1 base (fun k=>some k≠vA.ownBlock) vB l1):Dsk w1 base vA vB vP lA l1 lP:=(h.swap.wr hk ho).swap
/-- What isn't one of its rows has been written. -/
theorem Dsk.off {g:Nat}{cs:Array Value}(h:Dsk w base vA vB vP lA lB lP)(hb:w.heap[g]?=some (.cells cs 39 (0,0)))(hw:Wr g w w1):Dsk w1 base vA vB vP lA lB lP:=
 ⟨Kd.R_mono (Kd.R_move (Kd.R_types h.1 hb (by decide)) (fun k q=>hw.2.2 k q.2)) (fun _ q=>q.1),Kd.R_mono (Kd.R_move (Kd.R_types h.2.1 hb (by decide)) (fun k q=>hw.2.2 k q.2)) (fun _ q=>q.1),Kd.S_mono (Kd.S_move (Kd.S_types h.2.2 hb (by decide)) (fun k q=>hw.2.2 k q.2)) (fun _ q=>q.1)⟩
theorem own_then {v v2 v0:Value}{w0' w2:World}{n:Nat}(h:v.ownBlock=v0.ownBlock∨∃b,v.ownBlock=some b∧n≤b)(hn:n≤w2.heap.size)(hat:v2.ownBlock=v.ownBlock∨∃b,v2.ownBlock=some b∧w0'.heap.size≤b)(hg:w0'.grownBy w2 v.ownBlock)(hn':n≤w0'.heap.size):v2.ownBlock=v0.ownBlock∨∃b,v2.ownBlock=some b∧n≤b:=by
 rcases hat with q|⟨b,q,l⟩
 ·rw[q];exact h
 ·exact .inr ⟨b,q,by omega⟩
end
/-- The same, all of whose blocks are I. -/
def DskI (w:World)(base:Nat)(I:Nat→Prop)(vA vB vP:Value)(lA lB:List Int)(lP:List S91):Prop:=
 Kd.R (Kd.int .u8) 5 w base (fun k=>I k∧some k≠vB.ownBlock) vA lA∧Kd.R (Kd.int .u8) 5 w base (fun k=>I k∧some k≠vA.ownBlock) vB lB∧Kd.S k91 91 w base (fun k=>I k∧some k≠vA.ownBlock∧some k≠vB.ownBlock) vP lP
section
variable {w w1 : World} {base : Nat} {I : Nat → Prop} {vA vB vP v1 : Value} {lA lB l1 : List Int} {lP : List S91} {L : List Itm}
theorem DskI.move (h:DskI w base I vA vB vP lA lB lP)(hk:∀k,I k→w1.heap[k]?=w.heap[k]?):DskI w1 base I vA vB vP lA lB lP:=
 ⟨Kd.R_move h.1 (fun k q=>hk k q.1),Kd.R_move h.2.1 (fun k q=>hk k q.1),Kd.S_move h.2.2 (fun k q=>hk k q.1)⟩
def iDisk (base a b:Nat)(vA vB vP:Value)(lA lB:List Int)(lP:List S91):Itm where
 a:=a
 b:=b
 P:=fun w=>DskI w base (fun k=>a≤k∧k<b) vA vB vP lA lB lP
 st:=fun hk h=>DskI.move h (fun k q=>hk k q.1 q.2)
theorem Sep.disk (h:Sep base w L)(hb:Below w.heap.size w w1)(hB:base≤w.heap.size)(h1:Kd.R (Kd.int .u8) 5 w1 w.heap.size (fun k=>some k≠vB.ownBlock) vA lA)(h2:Kd.R (Kd.int .u8) 5 w1 w.heap.size (fun k=>some k≠vA.ownBlock) vB lB)
  (h3:Kd.S k91 91 w1 w.heap.size (fun k=>some k≠vA.ownBlock∧some k≠vB.ownBlock) vP lP):Sep base w1 (iDisk base w.heap.size w1.heap.size vA vB vP lA lB lP :: L):=
 h.add hb hB (iDisk base w.heap.size w1.heap.size vA vB vP lA lB lP) (Nat.le_refl _) hb.size (Nat.le_refl _)
  ⟨Kd.R_lower (Kd.R_mono (Kd.R_bound h1) (fun k q=>⟨⟨q.2.1,q.2.2.1⟩,q.1⟩)) hB,Kd.R_lower (Kd.R_mono (Kd.R_bound h2) (fun k q=>⟨⟨q.2.1,q.2.2.1⟩,q.1⟩)) hB,Kd.S_lower (Kd.S_mono (Kd.S_bound h3) (fun k q=>⟨⟨q.2.1,q.2.2.1⟩,q.1⟩)) hB⟩
/-- A flat row over what leaves its block. -/
theorem R_kept1 {α:Type}{d:Kd α}{e:Nat}{ok S:Nat→Prop}{v:Value}{xs:List α}(hE:d.E=[])(h:d.R e w base ok v xs)(hk:Kept w w1 S)(hn:∀k,v.ownBlock=some k→¬S k):d.R e w1 base ok v xs:=
 Kd.R_mono (Kd.R_kept (Kd.R_tight2 hE h) hk (fun k q=>hn k q.1.symm)) (fun _ q=>q.2)
end
section
variable {base x y cA cB cP : Nat} {AA AB AP : Option Addr} {lA lB : List Int} {lP : List S91} {W : World} {vA vB vP : Value}
theorem diskC0 (h:(iDisk base x y (.slice AA lA.length cA) vB vP lA lB lP).P W):(Kd.int .u8).C W AA lA.length lA:=(Kd.R_reads' h.1).2.2
theorem diskL0 (h:(iDisk base x y (.slice AA lA.length cA) vB vP lA lB lP).P W):lA.length≤cA:=(Kd.R_reads' h.1).2.1
theorem diskC1 (h:(iDisk base x y vA (.slice AB lB.length cB) vP lA lB lP).P W):(Kd.int .u8).C W AB lB.length lB:=(Kd.R_reads' h.2.1).2.2
theorem diskL1 (h:(iDisk base x y vA (.slice AB lB.length cB) vP lA lB lP).P W):lB.length≤cB:=(Kd.R_reads' h.2.1).2.1
theorem diskC2 (h:(iDisk base x y vA vB (.slice AP lP.length cP) lA lB lP).P W):k91.C W AP lP.length lP:=(Kd.S_reads' h.2.2).2.2
theorem diskL2 (h:(iDisk base x y vA vB (.slice AP lP.length cP) lA lB lP).P W):lP.length≤cP:=(Kd.S_reads' h.2.2).2.1
end
def spec_l9Copy.l0 :Nat→Int→List Int→List Int→Int→Int→Int→List (S91)→List Int→List Int→Int→Int→Int→List (S91)→Option (List Int×List Int×Int×Int×Int×(List (S91)))
  |0,_,_,_,_,_,_,_,_,_,_,_,_,_=>none
  |k+1,i,a,b,c,d,e,l,u,v,c',d',e',x=>if i<(l.length:Int) then (if 0≤i then ((spec_l9CopyPut.f ((rd_T91 l i).f0) ((rd_T91 l i).f1) ((rd_T91 l i).f2) ((rd_T91 l i).f3.f0) ((rd_T91 l i).f3.f1) ((rd_T91 l i).f3.f2)).bind fun p=>(if x.length<2199023255552 then (spec_l9Copy.l0 k (wrap64 (i+1)) a b c d e l u v c' d' e' (x++[(⟨p.1,p.2.1,p.2.2.1,(⟨p.2.2.2.1,p.2.2.2.2.1,p.2.2.2.2.2⟩:S36)⟩:S91)])) else (none))) else (none)) else (some (u,v,c',d',e',x))
def spec_l9Copy.f (k:Nat)(l0_0:List Int)(l0_1:List Int)(a0_2:Int)(a0_3:Int)(a0_4:Int)(l0_5:List (S91)):Option (List Int×List Int×Int×Int×Int×(List (S91))):=(some (([]:List Int):List Int)).bind fun y=>(if y.length+l0_0.length<140737488355328 then ((some (([]:List Int):List Int)).bind fun z=>(if z.length+l0_1.length<140737488355328 then (spec_l9Copy.l0 k 0 l0_0 l0_1 a0_2 a0_3 a0_4 l0_5 (y++l0_0) (z++l0_1) a0_2 a0_3 a0_4 (([]:List (S91)))) else (none))) else (none))
theorem spec_l9Copy.mono_l :∀k,(∀y0 y1 y2 y3 y4 y5 y6 y7 y8 y9 y10 y11 y12,LeO (spec_l9Copy.l0 k y0 y1 y2 y3 y4 y5 y6 y7 y8 y9 y10 y11 y12) (spec_l9Copy.l0 (k+1) y0 y1 y2 y3 y4 y5 y6 y7 y8 y9 y10 y11 y12))
  |0=>fun _ _ _ _ _ _ _ _ _ _ _ _ _ r h=>by simp [spec_l9Copy.l0] at h
  | k+1=>by
    have ih0:=spec_l9Copy.mono_l k
    · intro y0 y1 y2 y3 y4 y5 y6 y7 y8 y9 y10 y11 y12
      unfold spec_l9Copy.l0
      exact LM
theorem spec_l9Copy.mono :∀a0 a1 a2 a3 a4 a5 k,LeO (spec_l9Copy.f k a0 a1 a2 a3 a4 a5) (spec_l9Copy.f (k+1) a0 a1 a2 a3 a4 a5):=by
  intro a0 a1 a2 a3 a4 a5 k;have ih0:=spec_l9Copy.mono_l k;unfold spec_l9Copy.f;exact LM
/-- Nothing, where something will be. -/
def nilI (base:Nat):Itm:=⟨base,base,fun _=>True,fun _ h=>h⟩
section
variable {α : Type} {d : Kd α} {e base x y : Nat} {w w1 : World} {v v1 : Value} {xs ys : List α} {L : List Itm} {ok : Nat → Prop}
/-- Behind an append to the first row. -/
theorem Sep.app (hE:d.E=[])(h:Sep base w (iRow d e base x y v xs :: L))(hB:base≤w.heap.size)(ho:d.R e w1 base ok v1 ys)(hg:w.grownBy w1 v.ownBlock)(hat:v1.ownBlock=v.ownBlock∨∃b,v1.ownBlock=some b∧w.heap.size≤b):∃x' y',Sep base w1 (iRow d e base x' y' v1 ys :: L):=by
  have h0:d.R e w base (fun k=>x≤k∧k<y) v xs:=h.p0;have hk:KeptR x y w w1:=⟨hg.size,fun k hk hn=>hg.block k hk (fun he=>by have:=h0.1 k he.symm;omega)⟩
  rcases hat with q|⟨b,q,hb⟩
  · exact⟨x,y,h.put hk (iRow d e base x y v1 ys) rfl rfl (Kd.R_reok hE ho (fun k he=>h0.1 k (q ▸ he)))⟩
  · exact⟨w.heap.size,w1.heap.size,⟨⟨⟨hB,hg.size,Nat.le_refl _,Kd.R_reok hE ho (fun k he=>⟨by have:=he.symm.trans q;injection this;omega,Kd.R_lt ho k he⟩)⟩,Dj.of_sep h.2 (Nat.le_refl _)⟩,h.2.keptR hk h.1.2⟩⟩
end
theorem ex_get {l:List Oper}{i:Nat}{o:Oper}{p:Oper→Prop}(h:l[i]?=some o)(hp:p o):∃o,l.toArray[i]?=some o∧p o:=⟨o,by simpa using h,hp⟩
theorem nilI_dj {base:Nat}{w:World}:∀{L:List Itm},Sep base w L→Dj base base L
  |[],_=>trivial
  |J :: L,h=>⟨.inr h.1.1.1,nilI_dj h.2⟩
theorem nilI_1 {base:Nat}{w:World}{L:List Itm}(hB:base≤w.heap.size)(h:Sep base w L):Sep base w (nilI base :: L):=⟨⟨⟨Nat.le_refl _,Nat.le_refl _,hB,trivial⟩,nilI_dj h⟩,h⟩
theorem nilI_4 {base:Nat}{w:World}{L:List Itm}(hB:base≤w.heap.size)(h:Sep base w L):Sep base w (nilI base :: nilI base :: nilI base :: nilI base :: L):=nilI_1 hB (nilI_1 hB (nilI_1 hB (nilI_1 hB h)))
theorem Dsk.of_sep {base xA yA xB yB xP yP:Nat}{w:World}{vA vB vP:Value}{lA lB:List Int}{lP:List S91}{L:List Itm}(h:Sep base w (iRow (Kd.int .u8) 5 base xA yA vA lA :: iRow (Kd.int .u8) 5 base xB yB vB lB :: iSow k91 91 base xP yP vP lP :: L)):Dsk w base vA vB vP lA lB lP:=by
  have hA:(Kd.int .u8).R 5 w base (fun k=>xA≤k∧k<yA) vA lA:=h.p0;have hB:(Kd.int .u8).R 5 w base (fun k=>xB≤k∧k<yB) vB lB:=h.p1;have hP:Kd.S k91 91 w base (fun k=>xP≤k∧k<yP) vP lP:=h.p2;have a1:yB≤xA∨yA≤xB:=h.1.2.1;have a2:yP≤xA∨yA≤xP:=h.1.2.2.1;have a3:yP≤xB∨yB≤xP:=h.2.1.2.1;exact⟨Kd.R_mono hA (fun k q e=>by have:=hB.1 k e.symm;omega),Kd.R_mono hB (fun k q e=>by have:=hA.1 k e.symm;omega),Kd.S_mono hP (fun k q=>⟨fun e=>by have:=hA.1 k e.symm;omega,fun e=>by have:=hB.1 k e.symm;omega⟩)⟩
/-- Behind an append to the rows of rows. -/
theorem Dsk.appP {w w1:World}{base:Nat}{vA vB vP v1:Value}{lA lB:List Int}{lP l1:List S91}(h:Dsk w base vA vB vP lA lB lP)(hg:w.grownBy w1 vP.ownBlock)(ho:Kd.S k91 91 w1 base (fun k=>some k≠vA.ownBlock∧some k≠vB.ownBlock) v1 l1):Dsk w1 base vA vB v1 lA lB l1:=
  ⟨Kd.R_over' h.1 (Kd.S_typed h.2.2) (by decide) hg,Kd.R_over' h.2.1 (Kd.S_typed h.2.2) (by decide) hg,ho⟩
structure spec_l9Copy.R1 where
  b0:Bool
  b3:Bool
  b4:Bool
  b7:Bool
  b10:Bool
  b11:Bool
  b12:Bool
  b13:Bool
  v6:Value
  v9:Value
  v10:Value
  v13:Value
  v16:Value
  v17:Value
  v3:Value
def spec_l9Copy.cons (b0 b3 b4 b7 b10 b11 b12 b13:Bool):Bool:=(!b3||b0)&&(!b7||b4)&&(!b11||(b3&&b7&&b10))&&(!b13||(b11&&b12))
theorem spec_l9Copy.cons_iff {b0 b3 b4 b7 b10 b11 b12 b13:Bool}:spec_l9Copy.cons b0 b3 b4 b7 b10 b11 b12 b13=true↔(b3=true→b0=true)∧(b7=true→b4=true)∧(b11=true→b3=true∧b7=true∧b10=true)∧(b13=true→b11=true∧b12=true):=by
  unfold spec_l9Copy.cons;cases b0<;>cases b3<;>cases b4<;>cases b7<;>cases b10<;>cases b11<;>cases b12<;>cases b13<;>decide
def spec_l9Copy.mask (b0 b3 b4 b7 b10 b11 b12 b13:Bool):Array Bool:=#[b0,true,true,b3,b4,true,true,b7,true,true,b10,b11,b12,b13]
def spec_l9Copy.left (b0 b3 b4 b7 b10 b11 b12 b13:Bool):Nat:=(!b0).toNat+(!b3).toNat+(!b4).toNat+(!b7).toNat+(!b10).toNat+(!b11).toNat+(!b12).toNat+(!b13).toNat
def spec_l9Copy.may (b0 b3 b4 b7 b10 b11 b12 b13:Bool)(i:Nat):Bool:=(i==0&&!b0)||(i==3&&b0&&!b3)||(i==4&&!b4)||(i==7&&b4&&!b7)||(i==10&&!b10)||(i==11&&b3&&b7&&b10&&!b11)||(i==12&&!b12)||(i==13&&b11&&b12&&!b13)
noncomputable def spec_l9Copy.chk (b0 b3 b4 b7 b10 b11 b12 b13:Bool):Bool:=!(spec_l9Copy.cons b0 b3 b4 b7 b10 b11 b12 b13)||((spec_l9Copy.left b0 b3 b4 b7 b10 b11 b12 b13==0||!(Region.ready .any (opsOf Tryz.f30 1) (spec_l9Copy.mask b0 b3 b4 b7 b10 b11 b12 b13)).isEmpty)&&(Region.ready .any (opsOf Tryz.f30 1) (spec_l9Copy.mask b0 b3 b4 b7 b10 b11 b12 b13)).all (spec_l9Copy.may b0 b3 b4 b7 b10 b11 b12 b13))
theorem all2_ {p:Bool→Bool}(h:[true,false].all p=true)(b:Bool):p b=true:=List.all_eq_true.1 h b (by cases b<;>simp)
theorem spec_l9Copy.chks :∀b0 b3 b4 b7 b10 b11 b12 b13,spec_l9Copy.chk b0 b3 b4 b7 b10 b11 b12 b13=true:=by
  have H:([true,false].all fun b0=>[true,false].all fun b3=>[true,false].all fun b4=>[true,false].all fun b7=>[true,false].all fun b10=>[true,false].all fun b11=>[true,false].all fun b12=>[true,false].all fun b13=>spec_l9Copy.chk b0 b3 b4 b7 b10 b11 b12 b13)=true:=by kernel_rfl
  intro b0 b3 b4 b7 b10 b11 b12 b13;exact all2_ (all2_ (all2_ (all2_ (all2_ (all2_ (all2_ (all2_ H b0) b3) b4) b7) b10) b11) b12) b13
theorem spec_l9Copy.calls {k:Nat}{ak:Option Addr}{aj:Nat}{ab:List Int}{ai:Option Addr}{ah:Nat}{aa:List Int}{ae:Int}{ag:Int}{af:Int}{al:Option Addr}{am:Nat}{ac:List (S91)}{r1:List Int}{r2:List Int}{r3:Int}{r4:Int}{r5:Int}{r6:List (S91)}{w:World}(aw:Kd.C (Kd.int .u8) w ak ab.length ab)(aA:ab.length≤aj)(az:Kd.C (Kd.int .u8) w ai aa.length aa)(ay:aa.length≤ah)(ax:Kd.C k91 w al ac.length ac)(aB:ac.length≤am)(h:spec_l9Copy.f k ab aa ae ag af ac=some (r1,r2,r3,r4,r5,r6)):
  Calls Tryz.prog 30 #[.agg #[.slice ak ab.length aj,.slice ai aa.length ah,.int .i64 ae,.int .i64 ag,.int .i64 af,.slice al ac.length am]] w fun e w'=>∃v0_ v1_ v5_:Value,e=.returned (.agg #[v0_,v1_,.int .i64 r3,.int .i64 r4,.int .i64 r5,v5_])∧Kd.R (Kd.int .u8) 5 w' w.heap.size (fun k_=>some k_≠(v1_:Value).ownBlock) v0_ r1∧Kd.R (Kd.int .u8) 5 w' w.heap.size (fun k_=>some k_≠(v0_:Value).ownBlock) v1_ r2∧Kd.S k91 91 w' w.heap.size (fun k_=>some k_≠(v0_:Value).ownBlock∧some k_≠(v1_:Value).ownBlock) v5_ r6∧Below w.heap.size w w':=by
 have huq1:=Tryz.underlying39;have huq2:=Tryz.underlying91;have huq3:=Tryz.underlying36;have HRq1:=aM (And.intro aw aA);have HRq2:=aM (And.intro az ay);have HRq3:=aM (And.intro ax aB);have HB:=aM (Below.refl w.heap.size w);have HS:=aM (show Sep w.heap.size w [] from trivial);clear aw aA az ay ax aB;unfold spec_l9Copy.f at h;simp only[Option.bind_some] at h;replace h:=ifN h;obtain⟨Lq1,h⟩:=h;replace h:=ifN h;obtain⟨Lq2,h⟩:=h;simp only[List.nil_append] at h;have Hq1:=aM h;have Lq3':=aM Lq1;have Lq4':=aM Lq2;clear h Lq1 Lq2;go_enter Tryz.func30,Tryz.ntmps30;go_wp2_with (first|(refine g_D 1 ?_;refine gBx 1 #[.slice ak ab.length aj,.slice ai aa.length ah,.int .i64 ae,.int .i64 ag,.int .i64 af,.slice al ac.length am] 39 ?_;intro gq1 hg wq1 hbox hb;replace HS:=aM (Sep.blk HS.out hb HB.out.size hg hbox);replace HB:=aM (below_step HB.out hb);clear hb hbox hg;(simp only[Act.put,List.setIfInBounds_toArray,List.set_cons_zero,List.set_cons_succ]))|(refine g_D 2 ?_;refine gBx 2 #[.slice none 0 0,.slice none 0 0,.int .i64 0,.int .i64 0,.int .i64 0,.slice none 0 0] 39 ?_;intro gq2 hg wq1 hbox hb;replace HS:=aM (Sep.blk HS.out hb HB.out.size hg hbox);replace HB:=aM (below_step HB.out hb);clear hb hbox hg;(simp only[Act.put,List.setIfInBounds_toArray,List.set_cons_zero,List.set_cons_succ])))
 replace HS:=aM (HS.out.below (bd1 rfl));replace HB:=aM (below_step HB.out (bd1 rfl));refine st_ (n:=14) (ds:=[]) (Array.replicate 14 false) (hK6 (blkP (Sep.p1 HS.out))) (by kernel_rfl) rfl rfl (fun hHeld=>?_);generalize hw_:World.drew _=wq2 at HS HB hHeld ⊢;clear hw_;refine ppq 1 7 ?_;refine ppq 5 11 ?_;refine ppq 8 14 ?_;refine ptq 2 8 ?_;refine ptq 6 12 ?_;refine ptq 9 15 ?_;clear hHeld;refine free_ (σ:=spec_l9Copy.R1) (fun s=>spec_l9Copy.mask s.b0 s.b3 s.b4 s.b7 s.b10 s.b11 s.b12 s.b13) (fun s=>{tmps:=#[.agg #[.slice ak ab.length aj,.slice ai aa.length ah,.int .i64 ae,.int .i64 ag,.int .i64 af,.slice al ac.length am],.pointer (some ⟨gq1,0,none⟩),.pointer (some ⟨gq2,0,none⟩),s.v3,undef,undef,s.v6,.pointer (some ⟨gq1,0,none⟩),.slice ak ab.length aj,s.v9,s.v10,.pointer (some ⟨gq1,1,none⟩),.slice ai aa.length ah,s.v13,.pointer (some ⟨gq1,2,none⟩),.agg #[.int .i64 ae,.int .i64 ag,.int .i64 af],s.v16,s.v17,undef,undef,undef,undef,undef,undef,undef,undef,undef,undef,undef,undef,undef,undef,undef,undef,undef,undef,undef,undef],defers:=[]}) (fun s=>spec_l9Copy.left s.b0 s.b3 s.b4 s.b7 s.b10 s.b11 s.b12 s.b13) (fun s W=>spec_l9Copy.cons s.b0 s.b3 s.b4 s.b7 s.b10 s.b11 s.b12 s.b13=true∧Below w.heap.size w W∧∃(xA yA xB yB xP yP gX:Nat),Sep w.heap.size W [(if s.b3=true then iRow (Kd.int .u8) 5 w.heap.size xA yA s.v9 ab else if s.b0=true then iRow (Kd.int .u8) 5 w.heap.size xA yA s.v6 [] else nilI w.heap.size),(if s.b7=true then iRow (Kd.int .u8) 5 w.heap.size xB yB s.v13 aa else if s.b4=true then iRow (Kd.int .u8) 5 w.heap.size xB yB s.v10 [] else nilI w.heap.size),(if s.b10=true then iSow k91 91 w.heap.size xP yP s.v16 [] else nilI w.heap.size),(if s.b12=true then iBlk gX (if s.b13=true then #[s.v9,s.v13,.int .i64 ae,.int .i64 ag,.int .i64 af,s.v16] else #[.slice none 0 0,.slice none 0 0,.int .i64 0,.int .i64 0,.int .i64 0,.slice none 0 0]) 39 else nilI w.heap.size),iBlk gq2 #[.slice none 0 0,.slice none 0 0,.int .i64 0,.int .i64 0,.int .i64 0,.slice none 0 0] 39,iBlk gq1 #[.slice ak ab.length aj,.slice ai aa.length ah,.int .i64 ae,.int .i64 ag,.int .i64 af,.slice al ac.length am] 39]∧(s.b11=true→s.v17=.agg #[s.v9,s.v13,.int .i64 ae,.int .i64 ag,.int .i64 af,s.v16])∧(s.b12=true→s.v3=.pointer (some ⟨gX,0,none⟩))) (n0:=0) ?hS ?hready ?hstep ?hcont 8 ⟨false,false,false,false,false,false,false,false,undef,undef,undef,undef,undef,undef,undef⟩ _ (by rfl) ?hI0
 case hS=>
  intro s W h;obtain⟨_,_,xA,yA,xB,yB,xP,yP,gX,hS,_,_⟩:=h;exact cz6 (blkP (Sep.p5 hS))
 case hready=>
  intro s W h hc;have hk:=spec_l9Copy.chks s.b0 s.b3 s.b4 s.b7 s.b10 s.b11 s.b12 s.b13;unfold spec_l9Copy.chk at hk;rw[h.1] at hk;simp only[Bool.not_true,Bool.false_or,Bool.and_eq_true,Bool.or_eq_true,beq_iff_eq,Bool.not_eq_true'] at hk
  rcases hk.1 with q|q
  ·exact absurd q hc
  ·intro e
   have q':(Region.ready .any (opsOf Tryz.f30 1) (spec_l9Copy.mask s.b0 s.b3 s.b4 s.b7 s.b10 s.b11 s.b12 s.b13)).isEmpty=true:=by
    rw[show Region.ready .any (opsOf Tryz.f30 1) (spec_l9Copy.mask s.b0 s.b3 s.b4 s.b7 s.b10 s.b11 s.b12 s.b13)=[] from e];rfl
   rw[q] at q';cases q'
 case hI0=>exact⟨rfl,HB.out,0,0,0,0,0,0,0,nilI_4 HB.out.size HS.out,(fun q=>by cases q),(fun q=>by cases q)⟩
 case hstep=>
  intro s W hI hcs i hi;obtain⟨b0,b3,b4,b7,b10,b11,b12,b13,v6,v9,v10,v13,v16,v17,v3⟩:=s;obtain⟨hc,hB,xA,yA,xB,yB,xP,yP,gX,hS,hq1,hq2⟩:=hI;dsimp only at hc hS hq1 hq2 hcs hi;have hk:=spec_l9Copy.chks b0 b3 b4 b7 b10 b11 b12 b13;unfold spec_l9Copy.chk at hk;rw[hc] at hk;simp only[Bool.not_true,Bool.false_or,Bool.and_eq_true] at hk;have hm:=List.all_eq_true.1 hk.2 i hi;clear hk hcs hi;obtain⟨k1,k2,k3,k4⟩:=spec_l9Copy.cons_iff.1 hc;clear hc;unfold spec_l9Copy.may at hm;simp only[Bool.or_eq_true,Bool.and_eq_true,beq_iff_eq,Bool.not_eq_true'] at hm
  rcases hm with ((((((h|h)|h)|h)|h)|h)|h)|h
  ·obtain⟨rfl,rfl⟩:=h;have e_:b3=false:=Bool.eq_false_iff.2 (fun q=>by have:=k1 q;simp at this);subst e_;have e_:b11=false:=Bool.eq_false_iff.2 (fun q=>by have:=k3 q;simp at this);subst e_;simp only[Bool.false_eq_true,if_false,if_true] at hS;refine⟨by simp,?_⟩;refine ex_get (by rfl) ?_;intro K hK;refine Kd.R_lit_step (Kd.int .u8) _ 5 ?hg (N:=6) ?hd (xs:=[]) (inner:=[]) (ok:=fun _=>True) (okp:=fun _=>True) ?hr ?hp (fun _ hk=>hk) trivial (Below.refl _ _) (Nat.le_refl _) (by simp) ?_;(case hd=>rfl);(case hg=>rfl);(case hr=>first|(go_simp;done)|(go_simp;rfl));(case hp=>exact(Reps.none _ _));intro v wq3 ho hb hg_ hnew_;have hS':=Sep.row hS.drop hb hB.size ho;refine hK.out ⟨true,false,b4,b7,b10,false,b12,b13,v,v9,v10,v13,v16,v17,v3⟩ wq3 ⟨spec_l9Copy.cons_iff.2 ⟨by first|exact k1|simp,by first|exact k2|simp,by first|exact k3|simp,by first|exact k4|simp⟩,below_step hB hb,W.heap.size,wq3.heap.size,xB,yB,xP,yP,gX,?_,(fun q=>by cases q),hq2⟩ (by simp [spec_l9Copy.mask]) (by simp [spec_l9Copy.left]<;>omega);simp only[Bool.false_eq_true,if_false,if_true];exact hS'
  ·obtain⟨⟨rfl,rfl⟩,rfl⟩:=h;have e_:b11=false:=Bool.eq_false_iff.2 (fun q=>by have:=k3 q;simp at this);subst e_;have e_:b13=false:=Bool.eq_false_iff.2 (fun q=>by have:=k4 q;simp at this);subst e_;simp only[Bool.false_eq_true,if_false,if_true] at hS;refine⟨by simp,?_⟩;refine ex_get (by rfl) ?_;intro K hK;refine Kd.R_append_rows_step (Kd.int .u8) (w0:=w) w.heap.size (by rfl) (.tmp 6) (.tmp 8) 22 5 (.int .u8 0) 1 rfl Tryz.underlying22 info5 rfl (by decide) (by omega) v6 [] ab _ _ _ (fun _=>True) (fun _=>False) rfl rfl ?aO (Kd.C_below HRq1.out.1 hB) (fun _ _ h=>h) (fun _ h=>h.elim) (fun _ _=>trivial) hB hB.size (by have:=Lq3'.out;simp only[List.length_nil] at this ⊢;omega) ?_
   case aO=>exact Kd.R_mono (show(Kd.int .u8).R 5 W w.heap.size (fun k=>xA≤k∧k<yA) v6 [] from hS.p0) (fun _ _=>trivial)
   intro v wq3 ho hb hg hat;rw[List.nil_append] at ho;obtain⟨x',y',hS'⟩:=Sep.app rfl hS hB.size ho hg hat;refine hK.out ⟨true,true,b4,b7,b10,false,b12,false,v6,v,v10,v13,v16,v17,v3⟩ wq3 ⟨spec_l9Copy.cons_iff.2 ⟨by first|exact k1|simp,by first|exact k2|simp,by first|exact k3|simp,by first|exact k4|simp⟩,hb,x',y',xB,yB,xP,yP,gX,?_,(fun q=>by cases q),hq2⟩ (by simp [spec_l9Copy.mask]) (by simp [spec_l9Copy.left]<;>omega);simp only[Bool.false_eq_true,if_false,if_true];exact hS'
  ·obtain⟨rfl,rfl⟩:=h;have e_:b7=false:=Bool.eq_false_iff.2 (fun q=>by have:=k2 q;simp at this);subst e_;have e_:b11=false:=Bool.eq_false_iff.2 (fun q=>by have:=k3 q;simp at this);subst e_;simp only[Bool.false_eq_true,if_false,if_true] at hS;refine⟨by simp,?_⟩;refine ex_get (by rfl) ?_;intro K hK;refine Kd.R_lit_step (Kd.int .u8) _ 5 ?hg (N:=10) ?hd (xs:=[]) (inner:=[]) (ok:=fun _=>True) (okp:=fun _=>True) ?hr ?hp (fun _ hk=>hk) trivial (Below.refl _ _) (Nat.le_refl _) (by simp) ?_;(case hd=>rfl);(case hg=>rfl);(case hr=>first|(go_simp;done)|(go_simp;rfl));(case hp=>exact(Reps.none _ _));intro v wq3 ho hb hg_ hnew_;have hS':=Sep.f1 (Sep.row hS.f1.drop hb hB.size ho);refine hK.out ⟨b0,b3,true,false,b10,false,b12,b13,v6,v9,v,v13,v16,v17,v3⟩ wq3 ⟨spec_l9Copy.cons_iff.2 ⟨by first|exact k1|simp,by first|exact k2|simp,by first|exact k3|simp,by first|exact k4|simp⟩,below_step hB hb,xA,yA,W.heap.size,wq3.heap.size,xP,yP,gX,?_,(fun q=>by cases q),hq2⟩ (by simp [spec_l9Copy.mask]) (by simp [spec_l9Copy.left]<;>omega);simp only[Bool.false_eq_true,if_false,if_true];exact hS'
  ·obtain⟨⟨rfl,rfl⟩,rfl⟩:=h;have e_:b11=false:=Bool.eq_false_iff.2 (fun q=>by have:=k3 q;simp at this);subst e_;have e_:b13=false:=Bool.eq_false_iff.2 (fun q=>by have:=k4 q;simp at this);subst e_;simp only[Bool.false_eq_true,if_false,if_true] at hS;refine⟨by simp,?_⟩;refine ex_get (by rfl) ?_;intro K hK;refine Kd.R_append_rows_step (Kd.int .u8) (w0:=w) w.heap.size (by rfl) (.tmp 10) (.tmp 12) 22 5 (.int .u8 0) 1 rfl Tryz.underlying22 info5 rfl (by decide) (by omega) v10 [] aa _ _ _ (fun _=>True) (fun _=>False) rfl rfl ?aO (Kd.C_below HRq2.out.1 hB) (fun _ _ h=>h) (fun _ h=>h.elim) (fun _ _=>trivial) hB hB.size (by have:=Lq4'.out;simp only[List.length_nil] at this ⊢;omega) ?_
   case aO=>exact Kd.R_mono (show(Kd.int .u8).R 5 W w.heap.size (fun k=>xB≤k∧k<yB) v10 [] from hS.p1) (fun _ _=>trivial)
   intro v wq3 ho hb hg hat;rw[List.nil_append] at ho;obtain⟨x',y',hS'⟩:=Sep.app rfl hS.f1 hB.size ho hg hat;refine hK.out ⟨b0,b3,true,true,b10,false,b12,false,v6,v9,v10,v,v16,v17,v3⟩ wq3 ⟨spec_l9Copy.cons_iff.2 ⟨by first|exact k1|simp,by first|exact k2|simp,by first|exact k3|simp,by first|exact k4|simp⟩,hb,xA,yA,x',y',xP,yP,gX,?_,(fun q=>by cases q),hq2⟩ (by simp [spec_l9Copy.mask]) (by simp [spec_l9Copy.left]<;>omega);simp only[Bool.false_eq_true,if_false,if_true];exact hS'.f1
  ·obtain⟨rfl,rfl⟩:=h;have e_:b11=false:=Bool.eq_false_iff.2 (fun q=>by have:=k3 q;simp at this);subst e_;have e_:b13=false:=Bool.eq_false_iff.2 (fun q=>by have:=k4 q;simp at this);subst e_;simp only[Bool.false_eq_true,if_false,if_true] at hS;refine⟨by simp,?_⟩;refine ex_get (by rfl) ?_;intro K hK;refine Kd.S_lit_step k91 _ 91 ?hg (N:=16) ?hd (xs:=[]) (inner:=[]) (ok:=fun _=>True) (okp:=fun _=>True) ?hr ?hp (fun _ hk=>hk) trivial (Below.refl _ _) (Nat.le_refl _) (by simp) ?_;(case hd=>rfl);(case hg=>rfl);(case hr=>first|(go_simp;done)|(go_simp;rfl));(case hp=>exact(Reps.none _ _));intro v wq3 ho hb hg_ hnew_;have hS':=Sep.f2 (Sep.f2 (Sep.sow hS.f2.drop hb hB.size ho));refine hK.out ⟨b0,b3,b4,b7,true,false,b12,false,v6,v9,v10,v13,v,v17,v3⟩ wq3 ⟨spec_l9Copy.cons_iff.2 ⟨by first|exact k1|simp,by first|exact k2|simp,by first|exact k3|simp,by first|exact k4|simp⟩,below_step hB hb,xA,yA,xB,yB,W.heap.size,wq3.heap.size,gX,?_,(fun q=>by cases q),hq2⟩ (by simp [spec_l9Copy.mask]) (by simp [spec_l9Copy.left]<;>omega);simp only[Bool.false_eq_true,if_false,if_true];exact hS'
  ·obtain⟨⟨⟨⟨rfl,rfl⟩,rfl⟩,rfl⟩,rfl⟩:=h;obtain rfl:=k1 rfl;obtain rfl:=k2 rfl;have e_:b13=false:=Bool.eq_false_iff.2 (fun q=>by have:=k4 q;simp at this);subst e_;simp only[Bool.false_eq_true,if_false,if_true] at hS;obtain⟨Aq1,cq1,eq1⟩:=Kd.R_slice (show(Kd.int .u8).R 5 W w.heap.size (fun k=>xA≤k∧k<yA) v9 ab from hS.p0);subst eq1;obtain⟨Aq2,cq2,eq2⟩:=Kd.R_slice (show(Kd.int .u8).R 5 W w.heap.size (fun k=>xB≤k∧k<yB) v13 aa from hS.p1);subst eq2;obtain⟨Aq3,cq3,eq3⟩:=Kd.S_slice (show Kd.S k91 91 W w.heap.size (fun k=>xP≤k∧k<yP) v16 [] from hS.p2);subst eq3;refine⟨by simp,?_⟩;refine ex_get (by rfl) ?_;intro K hK;refine value_ (v:=.agg #[.slice Aq1 ab.length cq1,.slice Aq2 aa.length cq2,.int .i64 ae,.int .i64 ag,.int .i64 af,.slice Aq3 ([]:List S91).length cq3]) (w1:=W) (by rfl) rfl (by first|(go_simp;done)|(go_simp;rfl)) ?_;refine hK.out ⟨true,true,true,true,true,true,b12,false,v6,.slice Aq1 ab.length cq1,v10,.slice Aq2 aa.length cq2,.slice Aq3 ([]:List S91).length cq3,.agg #[.slice Aq1 ab.length cq1,.slice Aq2 aa.length cq2,.int .i64 ae,.int .i64 ag,.int .i64 af,.slice Aq3 ([]:List S91).length cq3],v3⟩ W ⟨spec_l9Copy.cons_iff.2 ⟨by first|exact k1|simp,by first|exact k2|simp,by first|exact k3|simp,by first|exact k4|simp⟩,hB,xA,yA,xB,yB,xP,yP,gX,?_,(fun _=>rfl),hq2⟩ (by simp [spec_l9Copy.mask]) (by simp [spec_l9Copy.left]<;>omega);simp only[Bool.false_eq_true,if_false,if_true];exact hS
  ·obtain⟨rfl,rfl⟩:=h;have e_:b13=false:=Bool.eq_false_iff.2 (fun q=>by have:=k4 q;simp at this);subst e_;simp only[Bool.false_eq_true,if_false,if_true] at hS;refine⟨by simp,?_⟩;refine ex_get (by rfl) ?_;intro K hK;refine gBxS 3 #[.slice none 0 0,.slice none 0 0,.int .i64 0,.int .i64 0,.int .i64 0,.slice none 0 0] 39 ?_;intro g hg wq3 hbox hb;have hS':=Sep.f3 (Sep.f3 (Sep.f3 (Sep.blk hS.f3.drop hb hB.size hg hbox)));refine hK.out ⟨b0,b3,b4,b7,b10,b11,true,false,v6,v9,v10,v13,v16,v17,.pointer (some ⟨g,0,none⟩)⟩ wq3 ⟨spec_l9Copy.cons_iff.2 ⟨by first|exact k1|simp,by first|exact k2|simp,by first|exact k3|simp,by first|exact k4|simp⟩,below_step hB hb,xA,yA,xB,yB,xP,yP,g,?_,hq1,(fun _=>rfl)⟩ (by simp [spec_l9Copy.mask]) (by simp [spec_l9Copy.left]<;>omega);simp only[Bool.false_eq_true,if_false,if_true];exact hS'
  ·obtain⟨⟨⟨rfl,rfl⟩,rfl⟩,rfl⟩:=h;obtain⟨rfl,rfl,rfl⟩:=k3 rfl;obtain rfl:=k1 rfl;obtain rfl:=k2 rfl;simp only[Bool.false_eq_true,if_false,if_true] at hS;obtain rfl:=hq2 rfl;obtain rfl:=hq1 rfl;obtain⟨Aq1,cq1,eq1⟩:=Kd.R_slice (show(Kd.int .u8).R 5 W w.heap.size (fun k=>xA≤k∧k<yA) v9 ab from hS.p0);subst eq1;obtain⟨Aq2,cq2,eq2⟩:=Kd.R_slice (show(Kd.int .u8).R 5 W w.heap.size (fun k=>xB≤k∧k<yB) v13 aa from hS.p1);subst eq2;obtain⟨Aq3,cq3,eq3⟩:=Kd.S_slice (show Kd.S k91 91 W w.heap.size (fun k=>xP≤k∧k<yP) v16 [] from hS.p2);subst eq3;refine⟨by simp,?_⟩;refine ex_get (by rfl) ?_;intro K hK;refine gStS [.slice Aq1 ab.length cq1,.slice Aq2 aa.length cq2,.int .i64 ae,.int .i64 ag,.int .i64 af,.slice Aq3 ([]:List S91).length cq3] #[.slice Aq1 ab.length cq1,.slice Aq2 aa.length cq2,.int .i64 ae,.int .i64 ag,.int .i64 af,.slice Aq3 ([]:List S91).length cq3] (blkP (Sep.p3 hS)) ?_;intro wq3 hw hbox;have hb:=hw.below hB (Sep.r3 hS).1;have hS':=Sep.f3 (Sep.f3 (Sep.f3 (Sep.wr hS.f3 hw hbox)));refine hK.out ⟨true,true,true,true,true,true,true,true,v6,.slice Aq1 ab.length cq1,v10,.slice Aq2 aa.length cq2,.slice Aq3 ([]:List S91).length cq3,.agg #[.slice Aq1 ab.length cq1,.slice Aq2 aa.length cq2,.int .i64 ae,.int .i64 ag,.int .i64 af,.slice Aq3 ([]:List S91).length cq3],.pointer (some ⟨gX,0,none⟩)⟩ wq3 ⟨spec_l9Copy.cons_iff.2 ⟨by first|exact k1|simp,by first|exact k2|simp,by first|exact k3|simp,by first|exact k4|simp⟩,hb,xA,yA,xB,yB,xP,yP,gX,?_,(fun _=>rfl),(fun _=>rfl)⟩ (by simp [spec_l9Copy.mask]) (by simp [spec_l9Copy.left]<;>omega);simp only[Bool.false_eq_true,if_false,if_true];exact hS'
 case hcont=>
  intro s W hI hc;obtain⟨b0,b3,b4,b7,b10,b11,b12,b13,v6,v9,v10,v13,v16,v17,v3⟩:=s;obtain⟨hc',hB,xA,yA,xB,yB,xP,yP,gX,hS,hq1,hq2⟩:=hI;dsimp only at hc' hS hq1 hq2 hc
  obtain⟨rfl,rfl,rfl,rfl,rfl,rfl,rfl,rfl⟩:b0=true∧b3=true∧b4=true∧b7=true∧b10=true∧b11=true∧b12=true∧b13=true:=by
   unfold spec_l9Copy.left at hc;have z:∀b:Bool,(!b).toNat=0→b=true:=by decide
   exact⟨z _ (by omega),z _ (by omega),z _ (by omega),z _ (by omega),z _ (by omega),z _ (by omega),z _ (by omega),z _ (by omega)⟩
  clear hc hc';simp only[Bool.false_eq_true,if_false,if_true] at hS;obtain rfl:=hq2 rfl;obtain rfl:=hq1 rfl;clear hq2 hq1;obtain⟨Aq1,cq1,eq1⟩:=Kd.R_slice (show(Kd.int .u8).R 5 W w.heap.size (fun k=>xA≤k∧k<yA) v9 ab from hS.p0);subst eq1;obtain⟨Aq2,cq2,eq2⟩:=Kd.R_slice (show(Kd.int .u8).R 5 W w.heap.size (fun k=>xB≤k∧k<yB) v13 aa from hS.p1);subst eq2;obtain⟨Aq3,cq3,eq3⟩:=Kd.S_slice (show Kd.S k91 91 W w.heap.size (fun k=>xP≤k∧k<yP) v16 [] from hS.p2);subst eq3;have HD:=aM (Dsk.of_sep hS);have Bq1:=aM (blkP (Sep.p3 hS));have Bq2:=aM (blkP (Sep.p4 hS));have Bq3:=aM (blkP (Sep.p5 hS));have HGq1:=aM (show w.heap.size≤gX from(Sep.r3 hS).1);have HGq2:=aM (show w.heap.size≤gq2 from(Sep.r4 hS).1);have qq1:gq2+1≤gX∨gX+1≤gq2:=hS.2.2.2.1.2.1;have qq2:gq1+1≤gX∨gX+1≤gq1:=hS.2.2.2.1.2.2.1;have Nq1:=aM (show gq2≠gX by omega);have Nq2:=aM (show gq1≠gX by omega);replace HB:=aM hB;clear hS hB HS qq1 qq2;refine done_ (by kernel_rfl) ?_;try go_wp2
  go_loopg [4] k (fun kq vq1 w'=>∃(i:Int) (Aq3:Option Addr) (cq3:Nat) (x:List S91),vq1=.int .i64 i∧Aside0 (spec_l9Copy.l0 kq i ab aa ae ag af ac ab aa ae ag af x=some (r1,r2,r3,r4,r5,r6))∧Aside0 (kq≤k)∧Aside0 (w'.heap[gX]?=some (.cells #[.slice Aq1 ab.length cq1,.slice Aq2 aa.length cq2,.int .i64 ae,.int .i64 ag,.int .i64 af,.slice Aq3 x.length cq3] 39 (0,0)))∧Aside0 (w'.heap[gq2]?=some (.cells #[.slice none 0 0,.slice none 0 0,.int .i64 0,.int .i64 0,.int .i64 0,.slice none 0 0] 39 (0,0)))∧Aside0 (w'.heap[gq1]?=some (.cells #[.slice ak ab.length aj,.slice ai aa.length ah,.int .i64 ae,.int .i64 ag,.int .i64 af,.slice al ac.length am] 39 (0,0)))∧Aside0 (Dsk w' w.heap.size (.slice Aq1 ab.length cq1) (.slice Aq2 aa.length cq2) (.slice Aq3 x.length cq3) ab aa x)∧Aside0 (Below w.heap.size w w'))
  case atStart=>exact⟨0,Aq3,cq3,[],rfl,Hq1,⟨Nat.le_refl _⟩,Bq1,Bq2,Bq3,HD,HB⟩
  case round=>
   clear Hq1 Bq1 Bq2 Bq3 HD HB;obtain⟨i,Aq3,cq3,x,rfl,HA,HKq1,Bq1,Bq2,Bq3,HD,HB⟩:=hrel;cases gk with
   |zero=>exact absurd HA.out (by simp [spec_l9Copy.l0])
   | succ k1=>
    have H:=HA.out;clear HA;simp only[spec_l9Copy.l0] at H;obtain⟨hczq1,hczq2,hczq3,hczq4,hczq5,hczq6⟩:=cz6 Bq3.out
    by_cases cq4:i<(ac.length:Int)
    ·rw[if_pos cq4] at H;have cq5:decide (i<(ac.length:Int))=true:=decide_eq_true cq4;replace H:=ifN H;obtain⟨cq6,H⟩:=H;replace H:=bE H;obtain⟨⟨tq1,tq2,tq3,tq4,tq5,tq6⟩,Aq4,H⟩:=H;dsimp only at Aq4 H;replace H:=ifN H;obtain⟨cx,H⟩:=H;have LX:=aM cx;have H':=aM H;clear H cx;obtain⟨ad,Aq5,cq7,eq4,ar,aq,ap,ao,au,av,hlq1,hiq1⟩:=at_T91 HRq3.out.1 i cq6 cq4;cases eq4;replace ar:=(HB.out.cell (World.block_lt_of_cell? w _ ar)).trans ar;replace aq:=(HB.out.cell (World.block_lt_of_cell? w _ aq)).trans aq;replace ap:=(HB.out.cell (World.block_lt_of_cell? w _ ap)).trans ap;replace ao:=(HB.out.cell (World.block_lt_of_cell? w _ ao)).trans ao;replace au:=(HB.out.cell (World.block_lt_of_cell? w _ au)).trans au;replace av:=(HB.out.cell (World.block_lt_of_cell? w _ av)).trans av;have HEq1:=aM (And.intro hiq1 hlq1);clear hiq1 hlq1;have p0:(0≤i)=True:=eq_true cq6;have qq3:(i<(ac.length:Int))=True:=eq_true cq4;have cq8:decide (0≤i)=true:=decide_eq_true cq6;clear cq4 cq6;go_wp2_with (first|(refine g_C 61 ?_;refine gL (some 30) Tryz.func61 #[.agg #[.int .i64 (rd_T91 ac i).f0,.int .i64 (rd_T91 ac i).f1,.slice Aq5 (rd_T91 ac i).f2.length cq7,.int .i64 (rd_T91 ac i).f3.f0,.int .i64 (rd_T91 ac i).f3.f1,.int .i64 (rd_T91 ac i).f3.f2]] ?_;refine(spec_l9CopyPut.calls (Kd.C_below HEq1.out.1 HB.out) HEq1.out.2 Aq4.out).mono ?_;rintro e_ wq3 ⟨vq2,rfl,ho,hb⟩;refine⟨_,rfl,?_⟩;have hn:=Kd.R_base ho;obtain⟨Aq6,cq9,eq5⟩:=Kd.R_slice ho;subst eq5;have HQ:=aM (show Kd.S k91 91 _ w.heap.size (fun k=>(some k≠(Value.slice Aq1 ab.length cq1).ownBlock∧some k≠(Value.slice Aq2 aa.length cq2).ownBlock)∧¬some k=(Value.slice Aq6 tq3.length cq9).ownBlock) (.slice Aq3 x.length cq3) x from Kd.S_mono (Kd.S_below (Kd.S_bound HD.out.2.2) hb) (fun k q=>⟨q.1,fun e=>by have:=hn k e.symm;have:=q.2.2.1;omega⟩));have HE:=aM (show(Kd.int .u8).R 5 _ w.heap.size (fun k=>(some k≠(Value.slice Aq1 ab.length cq1).ownBlock∧some k≠(Value.slice Aq2 aa.length cq2).ownBlock)∧some k≠(Value.slice Aq3 x.length cq3).ownBlock) (.slice Aq6 tq3.length cq9) tq3 from Kd.R_lower (Kd.R_mono (Kd.R_bound ho) (fun k q=>⟨⟨fun e=>by have:=Kd.R_lt HD.out.1 k e.symm;have:=q.2.1;omega,fun e=>by have:=Kd.R_lt HD.out.2.1 k e.symm;have:=q.2.1;omega⟩,fun e=>by have:=Kd.S_lt HD.out.2.2 k e.symm;have:=q.2.1;omega⟩)) HB.out.size);replace HD:=aM (HD.out.below hb);replace Bq2:=aM (blk_below Bq2.out hb);replace Bq1:=aM (blk_below Bq1.out hb);replace Bq3:=aM (blk_below Bq3.out hb);replace HB:=aM (below_step HB.out hb);clear ho hb hn hczq1 hczq2 hczq3 hczq4 hczq5 hczq6 ar aq ap ao au av;(simp only[Act.put,List.setIfInBounds_toArray,List.set_cons_zero,List.set_cons_succ]))|(refine g_D 5 ?_;refine gBx 5 #[.int .i64 0,.int .i64 0,.slice none 0 0,.int .i64 0,.int .i64 0,.int .i64 0] 91 ?_;intro gq3 hg wq1 hbox hb;have Bq4:=aM hbox;have HNq1:=aM (show _≤gq3 from(Nat.le_of_eq hg.symm));have HWq1:=aM hb;clear hb hbox hg;(simp only[Act.put,List.setIfInBounds_toArray,List.set_cons_zero,List.set_cons_succ]))|((with_reducible refine gate_store (t:=91) (p:=5) rfl ?_);refine gSt [.int .i64 tq1,.int .i64 tq2,.slice Aq6 tq3.length cq9,.int .i64 tq4,.int .i64 tq5,.int .i64 tq6] #[.int .i64 tq1,.int .i64 tq2,.slice Aq6 tq3.length cq9,.int .i64 tq4,.int .i64 tq5,.int .i64 tq6] Bq4.out ?_;intro wq4 hw hbox;have hb:=hw.below HWq1.out HNq1.out;replace Bq4:=aM hbox;replace HD:=aM (HD.out.below hb);replace HQ:=aM (Kd.S_below HQ.out hb);replace HE:=aM (Kd.R_below HE.out hb);replace Bq2:=aM (blk_below Bq2.out hb);replace Bq1:=aM (blk_below Bq1.out hb);replace Bq3:=aM (blk_below Bq3.out hb);replace HB:=aM (below_step HB.out hb);clear hw hbox hb HWq1 HNq1;obtain⟨hcyq1,hcyq2,hcyq3,hcyq4,hcyq5,hcyq6⟩:=cz6 Bq1.out)|(refine g_D 33 ?_;refine gLd 33 Bq4.out ?_;(simp only[Act.put,List.setIfInBounds_toArray,List.set_cons_zero,List.set_cons_succ]))|((with_reducible refine gate_builtin (b:=.append) (xs:=#[.tmp 32,.tmp 34]) rfl ?_);at_builtin;refine Kd.S_append k91 (w0:=w) w.heap.size rfl (.tmp 32) (.tmp 34) 37 91 (.agg #[(.int .i64 0),(.int .i64 0),(.slice none 0 0),(.int .i64 0),(.int .i64 0),(.int .i64 0)]) 64 rfl Tryz.underlying37 info91 rfl (by decide) (by omega) (.slice Aq3 x.length cq3) x (⟨tq1,tq2,tq3,(⟨tq4,tq5,tq6⟩:S36)⟩:S91) [.int .i64 tq1,.int .i64 tq2,.slice Aq6 tq3.length cq9,.int .i64 tq4,.int .i64 tq5,.int .i64 tq6] (fun k=>(some k≠(Value.slice Aq1 ab.length cq1).ownBlock∧some k≠(Value.slice Aq2 aa.length cq2).ownBlock)) (fun k=>some k=(Value.slice Aq6 tq3.length cq9).ownBlock) rfl rfl (k91_mkM _ _ _ (⟨tq1,tq2,tq3,(⟨tq4,tq5,tq6⟩:S36)⟩:S91) (Kd.R_mono (Kd.R_tight rfl HE.out) (fun _ h_=>h_))) (fun k q=>HE.out.1 k q.symm) (fun k q=>⟨fun e=>by have:=Kd.R_lt HD.out.1 k e.symm;omega,fun e=>by have:=Kd.R_lt HD.out.2.1 k e.symm;omega⟩) HQ.out HB.out HB.out.size (by have:=LX.out;omega) ?_;intro v1 wq5 ho hb hg hat;replace Bq2:=aM (blk_grown Bq2.out hg (Kd.S_ne HD.out.2.2 Bq2.out (by decide)));replace Bq1:=aM (blk_grown Bq1.out hg (Kd.S_ne HD.out.2.2 Bq1.out (by decide)));replace Bq3:=aM (blk_grown Bq3.out hg (Kd.S_ne HD.out.2.2 Bq3.out (by decide)));replace HD:=aM (Dsk.appP HD.out hg ho);replace HB:=aM hb;clear ho hb hg hat HQ HE Bq4 hcyq1 hcyq2 hcyq3 hcyq4 hcyq5 hcyq6;obtain⟨Aq7,cq10,eq6⟩:=Kd.S_slice HD.out.2.2;rw[List.length_append] at eq6;replace eq6:v1=.slice Aq7 (x.length+1) cq10:=eq6;subst eq6)|((with_reducible refine gate_store (t:=37) (p:=36) rfl ?_);refine gSt [.slice Aq7 (x.length+1) cq10] #[.slice Aq1 ab.length cq1,.slice Aq2 aa.length cq2,.int .i64 ae,.int .i64 ag,.int .i64 af,.slice Aq7 (x.length+1) cq10] Bq1.out ?_;intro wq6 hw hbox;replace HD:=aM (HD.out.off Bq1.out hw);replace Bq1:=aM hbox;replace Bq2:=aM ((hw.2.2 gq2 Nq1.out).trans Bq2.out);replace Bq3:=aM ((hw.2.2 gq1 Nq2.out).trans Bq3.out);replace HB:=aM (hw.below HB.out HGq1.out);clear hw hbox))
     go_roundg k1
     case measure=>have:=HKq1.out;omega
     case rel=>exact⟨_,Aq7,cq10,x++[_],rfl,H',⟨by have:=HKq1.out;omega⟩,⟨by rw[List.length_append];exact Bq1.out⟩,Bq2,Bq3,⟨by rw[List.length_append];exact HD.out⟩,HB⟩
    ·rw[if_neg cq4] at H;have cq5:decide (i<(ac.length:Int))=false:=decide_eq_false cq4;clear cq4;obtain⟨rfl,rfl,rfl,rfl,rfl,rfl⟩:ab=r1∧aa=r2∧ae=r3∧ag=r4∧af=r5∧x=r6:=by simpa using H
     clear H;go_wp2_with (first|(refine g_D 37 ?_;refine gLd 37 Bq1.out ?_;(simp only[Act.put,List.setIfInBounds_toArray,List.set_cons_zero,List.set_cons_succ]))|((with_reducible refine gate_store (t:=39) (p:=2) rfl ?_);refine gSt [.slice Aq1 ab.length cq1,.slice Aq2 aa.length cq2,.int .i64 ae,.int .i64 ag,.int .i64 af,.slice Aq3 x.length cq3] #[.slice Aq1 ab.length cq1,.slice Aq2 aa.length cq2,.int .i64 ae,.int .i64 ag,.int .i64 af,.slice Aq3 x.length cq3] Bq2.out ?_;intro wq3 hw hbox;replace HD:=aM (HD.out.off Bq2.out hw);replace Bq2:=aM hbox;replace HB:=aM (hw.below HB.out HGq2.out);clear hw hbox))
     refine bodyPost_ret (results_cell_row rfl _ _ gq2 39 _ (0,0) _ rfl Bq2.out huq1 rfl (by kernel_rfl)) rfl ?_;exact⟨_,_,_,rfl,HD.out.1,HD.out.2.1,HD.out.2.2,HB.out⟩
theorem eqA36 (d:Nat)(w:World)(x0 y0:Int)(x1 y1:Int)(x2 y2:Int):
    (Op.equalIn (d+2) 36 (.agg #[.int .i64 x0,.int .i64 x1,.int .i64 x2]) (.agg #[.int .i64 y0,.int .i64 y1,.int .i64 y2])).run Tryz.prog w=.ok (x0==y0&&(x1==y1&&(x2==y2))) w:=by
  refine eqA_of Tryz.underlying36 (by kernel_rfl) ?_
  refine eqf_cons (by rfl) (by go_simp;rfl) (by go_simp;rfl) (by go_simp) ?_
  refine eqf_cons (by rfl) (by go_simp;rfl) (by go_simp;rfl) (by go_simp) ?_
  exact eqf_last (by rfl) (by go_simp;rfl) (by go_simp;rfl) (by go_simp)
end Go.Proofs.YtjgmkkogmfogbaaGreat.Q
