/- Functions of the program as plain Lean functions, and that a call of each comes to what its function tells. -/
import Derived.Test.YtjgmkkogmfogbaaGreatQ5
set_option maxHeartbeats 40000000
set_option maxRecDepth 100000
namespace Go.Proofs.YtjgmkkogmfogbaaGreat.Q
open Go.RowKit Go.Proofs.YtjgmkkogmfogbaaGreatW.PrintWords Go.Proofs.YtjgmkkogmfogbaaGreatW.PrintLast Go.Proofs.YtjgmkkogmfogbaaGreatW.PrintMore
attribute [local go_sem] min2_int min_two
set_option linter.unusedVariables false
set_option linter.unusedSimpArgs false
attribute [local go_sem high] eqA96
theorem Zq7_0 {p:Prop}(h:p:=by (try simp only[List.map_toArray,List.map_cons,List.map_nil]);first|done|(rw[show((ad.take ((wrap64 (tq1+tq2)):Int).toNat).drop (tq1:Int).toNat).length=((wrap64 (tq1+tq2)).toNat - tq1.toNat) from(by rw[List.length_drop,List.length_take];have h_:((wrap64 (tq1+tq2)):Int)≤(ad.length:Int):=DT;omega)]<;>rfl)|rfl|(simp only[List.length_drop,List.length_take];rfl)):p:=h
theorem Zq7_1 {p:Prop}(h:p:=by repeat (first|exact(Kd.C_below HRq3.out TB)|(with_reducible refine Kd.C_alloc ?_ _)|(with_reducible refine Kd.C_drewN ?_ _)|(with_reducible refine Kd.C_drew ?_))):p:=h
theorem Zq7_2 {p:Prop}(h:p:=by repeat (first|exact(Kd.C_below au.out TB)|(with_reducible refine Kd.C_alloc ?_ _)|(with_reducible refine Kd.C_drewN ?_ _)|(with_reducible refine Kd.C_drew ?_))):p:=h
mutual
def spec_BuildOk.j0 :Nat→Bool→Int→Int→Int→List (S96)→Int→List Int→Option (Bool)
  |0,_,_,_,_,_,_,_=>none
  |k+1,g,a,b,c,d,e,f=>if g=true then (some false) else (spec_BuildOk.l0 k 0 a b c d e f)
def spec_BuildOk.l0 :Nat→Int→Int→Int→Int→List (S96)→Int→List Int→Option (Bool)
  |0,_,_,_,_,_,_,_=>none
  |k+1,h,g,e,f,c,d,b=>if h<(c.length:Int) then ((spec_SpanOf.f e f h).bind fun a=>(if 0≤a.1 then (if a.1≤(wrap64 (a.1+a.2)) then (if (wrap64 (a.1+a.2))≤(b.length:Int) then ((spec_InSet.f d h).bind fun j=>(if j=true then ((spec_SumOf.f k ((b.take ((wrap64 (a.1+a.2)):Int).toNat).drop (a.1:Int).toNat)).bind fun i=>(if 0≤h then (if (!(i.1==((rd_T96 c h).f0))||(!(i.2==((rd_T96 c h).f1))))=true then (some false) else ((spec_InSet.f d h).bind fun l=>(if l=true then (spec_BuildOk.l0 k (wrap64 (h+1)) g e f c d b) else ((spec_l8Zero.f k ((b.take ((wrap64 (a.1+a.2)):Int).toNat).drop (a.1:Int).toNat)).bind fun m=>(if m=true then (spec_BuildOk.l0 k (wrap64 (h+1)) g e f c d b) else (some false)))))) else (none))) else ((spec_InSet.f d h).bind fun n=>(if n=true then (spec_BuildOk.l0 k (wrap64 (h+1)) g e f c d b) else ((spec_l8Zero.f k ((b.take ((wrap64 (a.1+a.2)):Int).toNat).drop (a.1:Int).toNat)).bind fun o=>(if o=true then (spec_BuildOk.l0 k (wrap64 (h+1)) g e f c d b) else (some false))))))) else (none)) else (none)) else (none))) else (some true)
end
def spec_BuildOk.f (k:Nat)(b:Int)(c:Int)(a:Int)(d:List (S96))(e:Int)(f:List Int):Option (Bool):=(spec_ManOk.f k b c a d).bind fun g=>(if g=true then ((spec_SetOk.f e).bind fun h=>(if h=true then ((spec_AllParts.f b c a d).bind fun i=>((spec_Without.f e i).bind fun j=>(if j=0 then (spec_BuildOk.j0 k ((f.length:Int) != a) b c a d e f) else (spec_BuildOk.j0 k true b c a d e f)))) else (spec_BuildOk.j0 k true b c a d e f))) else (spec_BuildOk.j0 k true b c a d e f))
theorem spec_BuildOk.mono_l :∀k,(∀a b c d e f g,LeO (spec_BuildOk.j0 k a b c d e f g) (spec_BuildOk.j0 (k+1) a b c d e f g))∧(∀a b c d e f g,LeO (spec_BuildOk.l0 k a b c d e f g) (spec_BuildOk.l0 (k+1) a b c d e f g))
  |0=>⟨fun _ _ _ _ _ _ _ r h=>by simp [spec_BuildOk.j0] at h,fun _ _ _ _ _ _ _ r h=>by simp [spec_BuildOk.l0] at h⟩
  | k+1=>by
    have m0_:=@spec_ManOk.mono
    have m1_:=@spec_SumOf.mono
    have m2_:=@spec_l8Zero.mono
    obtain⟨ih0,ih1⟩:=spec_BuildOk.mono_l k
    refine⟨?_,?_⟩
    · intro y0 y1 y2 y3 y4 y5 y6
      unfold spec_BuildOk.j0
      exact LM
    · intro y0 y1 y2 y3 y4 y5 y6
      unfold spec_BuildOk.l0
      exact LM
theorem spec_BuildOk.mono :∀a b c d e f k,LeO (spec_BuildOk.f k a b c d e f) (spec_BuildOk.f (k+1) a b c d e f):=by
  intro a0 a1 a2 a3 a4 a5 k;have m0_:=@spec_ManOk.mono;have m1_:=@spec_SumOf.mono;have m2_:=@spec_l8Zero.mono;obtain⟨ih0,ih1⟩:=spec_BuildOk.mono_l k;unfold spec_BuildOk.f;exact LM
def spec_BuildOk.T1 :Bool×List (List Nat×List Nat):=(true,[([],[]),([0],[0]),([1],[1]),([2,1],[2]),([3],[3]),([4,3],[3,4]),([5,3,3],[3,5]),([6,3],[3,6]),([3,7],[3,7]),([8,6],[8]),([9],[9]),([10,9],[9,10]),([9],[9]),([12,9,9],[9,12]),([11,13,13,9],[9,11,13]),([14,9],[9,14]),([9,15],[9,15]),([16,14],[16]),([17],[17]),([18,17],[17,18]),([19,17],[17,19]),([17],[17]),([21,17],[17,21]),([20,22,17],[17,20,22]),([17,23],[17,23])])
def spec_BuildOk.B1 :List Nat:=[0,1,3,7,15,31,63,127,255,511,1023,2047,1023,5119,16383,32767,65535,131071,262143,524287,1048575,262143,2359295,8388607,16777215]
theorem spec_BuildOk.tab1 :rtab .any (opsOf Tryz.f51 1)=spec_BuildOk.T1:=by kernel_rfl
theorem spec_BuildOk.bits1 :waitsOk spec_BuildOk.T1.2 spec_BuildOk.B1=true:=by kernel_rfl
def spec_BuildOk.T8 :Bool×List (List Nat×List Nat):=(true,[([],[]),([0],[0]),([],[]),([1,2],[1,2]),([3,3],[3]),([4],[4]),([5,4,4],[4,5]),([4],[4]),([7,4],[4,7]),([4],[4]),([8,9,4],[4,8,9]),([10,4],[4,10]),([6,11,4],[4,6,11]),([4,12],[4,12]),([13,6],[13]),([14],[14]),([15,14],[14,15]),([14],[14]),([16,17,14,14],[14,16,17]),([18,14],[14,18]),([19,18,14],[14,19]),([20],[20]),([21,20,20],[20,21]),([22,20],[20,22]),([20,23,14],[14,20,23]),([14,24],[14,24])])
def spec_BuildOk.B8 :List Nat:=[0,1,0,7,15,31,63,31,159,31,927,1951,4095,8191,16383,32767,65535,32767,262143,524287,1048575,2097151,4194303,8388607,16777215,33554431]
theorem spec_BuildOk.tab8 :rtab .any (opsOf Tryz.f51 8)=spec_BuildOk.T8:=by kernel_rfl
theorem spec_BuildOk.bits8 :waitsOk spec_BuildOk.T8.2 spec_BuildOk.B8=true:=by kernel_rfl
theorem Yq7_1 {p:Prop}(h:p:=by
 try go_wp2
 go_roundg k2
 case measure=>have:=aq.out;have:=ar.out;omega
 case rel=>exact⟨(wrap64 (xq2+1)),TF,H',⟨by have:=aq.out;have:=ar.out;omega⟩,⟨TK⟩,⟨TK⟩,⟨TB⟩⟩):p:=h
theorem Yq7_0 {p:Prop}(h:p:=by
 refine ppq 16 25 ?_;refine ppq 17 26 ?_;refine pxq 18 27 ?_;refine pxq 19 28 ?_;refine pxq 20 29 ?_;refine pxq 21 30 ?_;refine pxq 22 31 ?_;refine pxq 23 32 ?_;refine ppq 24 33 ?_;refine done_ (done_of HT_.out (by kernel_rfl)) ?_;try go_wp2
 go_meet
 case rel=>exact⟨_,(true),TF,H',⟨by first|omega|exact Nat.le_refl _⟩,⟨TK⟩,⟨TK⟩,⟨TB⟩⟩):p:=h
theorem spec_BuildOk.calls {k:Nat}{ah:Int}{ag:Int}{af:Int}{am:Option Addr}{al:Nat}{ac:List (S96)}{ae:Int}{an:Option Addr}{ak:Nat}{ad:List Int}{r:Bool}{w:World}(aV:Kd.C k96 w am ac.length ac)(aW:ac.length≤al)(aX:Kd.C (Kd.int .u8) w an ad.length ad)(aU:ad.length≤ak)(h:spec_BuildOk.f k ah ag af ac ae ad=some r):
  Calls Tryz.prog 51 #[.agg #[.int .i64 ah,.int .i64 ag,.int .i64 af,.slice am ac.length al],.agg #[.int .i64 ae,.slice an ad.length ak]] w fun e w'=>e=.returned (.bool r)∧Below w.heap.size w w':=by
 have huq1:=Tryz.underlying45;have huq2:=Tryz.underlying47;have huq3:=Tryz.underlying96;have au:=aM aV;have az:=aM aW;clear aV aW;have aT:=aM aX;have aS:=aM aU;clear aX aU;have HB:=aM (Below.refl w.heap.size w);have H:=h;clear h;unfold spec_BuildOk.f at H;have aR:=aM H;clear H;go_enter Tryz.func51,Tryz.ntmps51;go_upto_region 1 with (first|(refine g_D 2 ?_;(try (refine gate_guard (by rfl) ?_;dsimp only));refine gBx 2 #[.int .i64 ah,.int .i64 ag,.int .i64 af,.slice am ac.length al] 45 ?_;intro aB hg wq1 hbox hb;have aa:=aM (hbox);have GWq1:=gW HB hg;have GEq1:=gW HB hg;replace HB:=bS HB hb;clear hb hbox hg)|(refine g_D 3 ?_;(try (refine gate_guard (by rfl) ?_;dsimp only));refine gBx 3 #[.int .i64 ae,.slice an ad.length ak] 47 ?_;intro gbq2 hg wq2 hbox hb;have ab:=aM (hbox);have GWq2:=gW HB hg;have GEq2:=gW HB hg;obtain⟨NBq1,NBq2⟩:=nB aa hg;replace aa:=mB aa hb;replace HB:=bS HB hb;clear hb hbox hg))
 (try simp only[NP])
 go_cut [33] (fun vq1 wc=>∃(kq:Nat) (xq1:Bool),vq1=.bool xq1∧Aside0 (spec_BuildOk.j0 kq xq1 ah ag af ac ae ad=some r)∧Aside0 (kq≤k)∧Aside0 (wc.heap[aB]?=some (.cells #[.int .i64 ah,.int .i64 ag,.int .i64 af,(.slice am ac.length al)] 45 (0,0)))∧Aside0 (wc.heap[gbq2]?=some (.cells #[.int .i64 ae,(.slice an ad.length ak)] 47 (0,0)))∧Aside0 (Below w.heap.size w wc))
 case first=>
  have H:=aR.out;clear aR;replace H:=bE H;obtain⟨t167,Aq1,H⟩:=H
  by_cases cq1:t167=true
  ·subst cq1;replace H:=ifT H;replace H:=bE H;obtain⟨t168,Aq2,H⟩:=H
   by_cases cq2:t168=true
   ·subst cq2;replace H:=ifT H;replace H:=bE H;obtain⟨ay,Aq3,H⟩:=H;replace H:=bE H;obtain⟨ax,Aq4,H⟩:=H
    by_cases cq3:ax=0
    ·rw[if_pos cq3] at H;have cq4:(ax==0)=true:=beq_iff_eq.mpr cq3;have cq5:(ax != 0)=false:=bne_eq_false_iff_eq.mpr cq3;clear cq3;(first|rw[cq4]|(simp only[i64_w,i32_w];rw[cq4])|skip);have H':=aM H;clear H;try go_wp2
     replace aa:=bD aa;replace ab:=bD ab;replace HB:=aM (below_drew1 HB.out);refine st_ (n:=25) (ds:=[]) (Array.replicate 25 false) (hJ4 aa.out (hK2 ab.out)) (by kernel_rfl) rfl rfl (fun hHeld=>?_);refine with_tabW spec_BuildOk.tab1 spec_BuildOk.bits1 (fun HT_ HW_=>?_);generalize wq2.drew=wq3 at aa ab HB hHeld ⊢;refine ptq 0 9 ?_;refine poq 1 10 (fun K hK=>?_);refine gG Tryz.func78 #[.agg #[.int .i64 ah,.int .i64 ag,.int .i64 af,.slice am ac.length al]] ?_;with_reducible refine(spec_ManOk.calls ?side1 ?side2 Aq1.out).mono ?_
     (case side1=>have X_:=(Kd.C_below au.out HB.out);exact TC);(case side2=>exact az.out);rintro e wq4 ⟨rfl,hb⟩;refine⟨_,rfl,?_⟩;replace aa:=mB aa hb;replace ab:=mB ab hb;replace HB:=bS HB hb;(try clear hb);refine hK.out _ _ (cJ4 aa.out (cK2 ab.out)) (fun hHeld=>?_);clear hK K;refine nR ?_;refine ppq 2 11 ?_;refine ppq 3 12 ?_;refine ppq 4 13 ?_;refine ptq 5 14 ?_;refine poq 6 15 (fun K hK=>?_);refine gG Tryz.func79 #[.int .i64 ae] ?_;with_reducible refine(spec_SetOk.calls Aq2.out).mono ?_
     rintro e w' ⟨rfl,⟨nd,rfl⟩⟩;refine⟨_,rfl,?_⟩;refine hK.out _ _ (cJ4 aa.out (cK2 ab.out)) (fun hHeld=>?_);clear hK K;refine nR ?_;refine ppq 7 16 ?_;refine ppq 8 17 ?_;refine ppq 9 18 ?_;refine ppq 10 19 ?_;refine ptq 11 20 ?_;refine ptq 12 21 ?_;refine poq 13 22 (fun K hK=>?_);refine gG Tryz.func81 #[.agg #[.int .i64 ah,.int .i64 ag,.int .i64 af,.slice am ac.length al]] ?_;with_reducible refine(spec_AllParts.calls ?side1 ?side2 Aq3.out).mono ?_
     (case side1=>exact Zq7_2);(case side2=>exact az.out);rintro e wq5 ⟨rfl,hb⟩;refine⟨_,rfl,?_⟩;replace aa:=mB aa hb;replace ab:=mB ab hb;replace HB:=bS HB hb;(try clear hb);refine hK.out _ _ (cJ4 aa.out (cK2 ab.out)) (fun hHeld=>?_);clear hK K;refine nR ?_;refine poq 14 23 (fun K hK=>?_);refine gG Tryz.func80 #[.int .i64 ae,.int .i64 ay] ?_;with_reducible refine(spec_Without.calls Aq4.out).mono ?_
     rintro e w' ⟨rfl,⟨nd,rfl⟩⟩;refine⟨_,rfl,?_⟩;refine hK.out _ _ (cJ4 aa.out (cK2 ab.out)) (fun hHeld=>?_);clear hK K;refine nR ?_;refine ppq 15 24 ?_;refine ppq 16 25 ?_;refine ppq 17 26 ?_;refine ppq 18 27 ?_;refine ppq 21 30 ?_;refine ptq 19 28 ?_;refine ppq 20 29 ?_;refine ptq 22 31 ?_;refine ppq 23 32 ?_;refine ppq 24 33 ?_;refine done_ (done_of HT_.out (by kernel_rfl)) ?_;try go_wp2
     go_meet
     case rel=>exact⟨_,(((ad.length:Int) != af)),TF,H',⟨by first|omega|exact Nat.le_refl _⟩,⟨TK⟩,⟨TK⟩,⟨TB⟩⟩
    ·rw[if_neg cq3] at H;have cq4:(ax==0)=false:=beq_eq_false_iff_ne.mpr cq3;have cq5:(ax != 0)=true:=bne_iff_ne.mpr cq3;(first|rw[cq4]|(simp only[i64_w,i32_w];rw[cq4])|skip);have H':=aM H;clear H;try go_wp2
     replace aa:=bD aa;replace ab:=bD ab;replace HB:=aM (below_drew1 HB.out);refine st_ (n:=25) (ds:=[]) (Array.replicate 25 false) (hJ4 aa.out (hK2 ab.out)) (by kernel_rfl) rfl rfl (fun hHeld=>?_);refine with_tabW spec_BuildOk.tab1 spec_BuildOk.bits1 (fun HT_ HW_=>?_);generalize wq2.drew=wq3 at aa ab HB hHeld ⊢;refine ptq 0 9 ?_;refine poq 1 10 (fun K hK=>?_);refine gG Tryz.func78 #[.agg #[.int .i64 ah,.int .i64 ag,.int .i64 af,.slice am ac.length al]] ?_;with_reducible refine(spec_ManOk.calls ?side1 ?side2 Aq1.out).mono ?_
     (case side1=>have X_:=(Kd.C_below au.out HB.out);exact TC);(case side2=>exact az.out);rintro e wq4 ⟨rfl,hb⟩;refine⟨_,rfl,?_⟩;replace aa:=mB aa hb;replace ab:=mB ab hb;replace HB:=bS HB hb;(try clear hb);refine hK.out _ _ (cJ4 aa.out (cK2 ab.out)) (fun hHeld=>?_);clear hK K;refine nR ?_;refine ppq 2 11 ?_;refine ppq 3 12 ?_;refine ppq 4 13 ?_;refine ptq 5 14 ?_;refine poq 6 15 (fun K hK=>?_);refine gG Tryz.func79 #[.int .i64 ae] ?_;with_reducible refine(spec_SetOk.calls Aq2.out).mono ?_
     rintro e w' ⟨rfl,⟨nd,rfl⟩⟩;refine⟨_,rfl,?_⟩;refine hK.out _ _ (cJ4 aa.out (cK2 ab.out)) (fun hHeld=>?_);clear hK K;refine nR ?_;refine ppq 7 16 ?_;refine ppq 8 17 ?_;refine ppq 9 18 ?_;refine ppq 10 19 ?_;refine ptq 11 20 ?_;refine ptq 12 21 ?_;refine poq 13 22 (fun K hK=>?_);refine gG Tryz.func81 #[.agg #[.int .i64 ah,.int .i64 ag,.int .i64 af,.slice am ac.length al]] ?_;with_reducible refine(spec_AllParts.calls ?side1 ?side2 Aq3.out).mono ?_
     (case side1=>exact Zq7_2);(case side2=>exact az.out);rintro e wq5 ⟨rfl,hb⟩;refine⟨_,rfl,?_⟩;replace aa:=mB aa hb;replace ab:=mB ab hb;replace HB:=bS HB hb;(try clear hb);refine hK.out _ _ (cJ4 aa.out (cK2 ab.out)) (fun hHeld=>?_);clear hK K;refine nR ?_;refine poq 14 23 (fun K hK=>?_);refine gG Tryz.func80 #[.int .i64 ae,.int .i64 ay] ?_;with_reducible refine(spec_Without.calls Aq4.out).mono ?_
     rintro e w' ⟨rfl,⟨nd,rfl⟩⟩;refine⟨_,rfl,?_⟩;refine hK.out _ _ (cJ4 aa.out (cK2 ab.out)) (fun hHeld=>?_);clear hK K;refine nR ?_;refine ppq 15 24 ?_;exact Yq7_0
   ·replace cq2:=b_F cq2;subst cq2;replace H:=ifF H;have H':=aM H;clear H;try go_wp2
    replace aa:=bD aa;replace ab:=bD ab;replace HB:=aM (below_drew1 HB.out);refine st_ (n:=25) (ds:=[]) (Array.replicate 25 false) (hJ4 aa.out (hK2 ab.out)) (by kernel_rfl) rfl rfl (fun hHeld=>?_);refine with_tabW spec_BuildOk.tab1 spec_BuildOk.bits1 (fun HT_ HW_=>?_);generalize wq2.drew=wq3 at aa ab HB hHeld ⊢;refine ptq 0 9 ?_;refine poq 1 10 (fun K hK=>?_);refine gG Tryz.func78 #[.agg #[.int .i64 ah,.int .i64 ag,.int .i64 af,.slice am ac.length al]] ?_;with_reducible refine(spec_ManOk.calls ?side1 ?side2 Aq1.out).mono ?_
    (case side1=>have X_:=(Kd.C_below au.out HB.out);exact TC);(case side2=>exact az.out);rintro e wq4 ⟨rfl,hb⟩;refine⟨_,rfl,?_⟩;replace aa:=mB aa hb;replace ab:=mB ab hb;replace HB:=bS HB hb;(try clear hb);refine hK.out _ _ (cJ4 aa.out (cK2 ab.out)) (fun hHeld=>?_);clear hK K;refine nR ?_;refine ppq 2 11 ?_;refine ppq 3 12 ?_;refine ppq 4 13 ?_;refine ptq 5 14 ?_;refine poq 6 15 (fun K hK=>?_);refine gG Tryz.func79 #[.int .i64 ae] ?_;with_reducible refine(spec_SetOk.calls Aq2.out).mono ?_
    rintro e w' ⟨rfl,⟨nd,rfl⟩⟩;refine⟨_,rfl,?_⟩;refine hK.out _ _ (cJ4 aa.out (cK2 ab.out)) (fun hHeld=>?_);clear hK K;refine nR ?_;refine ppq 7 16 ?_;refine ppq 8 17 ?_;refine ppq 9 18 ?_;refine pxq 10 19 ?_;refine pxq 11 20 ?_;refine pxq 12 21 ?_;refine pxq 13 22 ?_;refine pxq 14 23 ?_;refine pxq 15 24 ?_;exact Yq7_0
  ·replace cq1:=b_F cq1;subst cq1;replace H:=ifF H;have H':=aM H;clear H;try go_wp2
   replace aa:=bD aa;replace ab:=bD ab;replace HB:=aM (below_drew1 HB.out);refine st_ (n:=25) (ds:=[]) (Array.replicate 25 false) (hK4 aa.out) (by kernel_rfl) rfl rfl (fun hHeld=>?_);refine with_tabW spec_BuildOk.tab1 spec_BuildOk.bits1 (fun HT_ HW_=>?_);generalize wq2.drew=wq3 at aa ab HB hHeld ⊢;refine ptq 0 9 ?_;refine poq 1 10 (fun K hK=>?_);refine gG Tryz.func78 #[.agg #[.int .i64 ah,.int .i64 ag,.int .i64 af,.slice am ac.length al]] ?_;with_reducible refine(spec_ManOk.calls ?side1 ?side2 Aq1.out).mono ?_
   (case side1=>have X_:=(Kd.C_below au.out HB.out);exact TC);(case side2=>exact az.out);rintro e wq4 ⟨rfl,hb⟩;refine⟨_,rfl,?_⟩;replace aa:=mB aa hb;replace ab:=mB ab hb;replace HB:=bS HB hb;(try clear hb);refine hK.out _ _ (cz4 aa.out) (fun hHeld=>?_);clear hK K;refine nR ?_;refine ppq 2 11 ?_;refine ppq 3 12 ?_;refine pxq 4 13 ?_;refine pxq 5 14 ?_;refine pxq 6 15 ?_;refine pxq 7 16 ?_;refine ppq 8 17 ?_;refine ppq 9 18 ?_;refine pxq 10 19 ?_;refine pxq 11 20 ?_;refine pxq 12 21 ?_;refine pxq 13 22 ?_;refine pxq 14 23 ?_;refine pxq 15 24 ?_;exact Yq7_0
 case rest=>
  clear aR;obtain⟨kq,xq1,rfl,HA,aq,aa,ab,HB⟩:=hcut;cases kq with
  |zero=>exact absurd HA.out (by simp [spec_BuildOk.j0])
  | succ kj2=>
   have H:=HA.out;clear HA;simp only[spec_BuildOk.j0] at H
   by_cases cq5:xq1=true
   ·subst cq5;replace H:=ifT H;obtain rfl:=o_I H;go_wp2
    go_ret
    exact⟨TE,TB⟩
   ·replace cq5:=b_F cq5;subst cq5;replace H:=ifF H;have H':=aM H;clear H;go_wp2
    go_loopg [5] kj2 (fun kq vq2 w'=>∃(xq2:Int),vq2=.int .i64 xq2∧Aside0 (spec_BuildOk.l0 kq xq2 ah ag af ac ae ad=some r)∧Aside0 (kq≤kj2)∧Aside0 (w'.heap[aB]?=some (.cells #[.int .i64 ah,.int .i64 ag,.int .i64 af,(.slice am ac.length al)] 45 (0,0)))∧Aside0 (w'.heap[gbq2]?=some (.cells #[.int .i64 ae,(.slice an ad.length ak)] 47 (0,0)))∧Aside0 (Below w.heap.size w w'))
    case atStart=>exact⟨(0),TF,H',⟨Nat.le_refl _⟩,⟨TK⟩,⟨TK⟩,⟨TB⟩⟩
    case round=>
     clear H';try clear cq5
     obtain⟨xq2,rfl,HA,ar,aa,ab,HB⟩:=hrel;cases gk with
     |zero=>exact absurd HA.out (by simp [spec_BuildOk.l0])
     | succ k2=>
      have H:=HA.out;clear HA;simp only[spec_BuildOk.l0] at H
      by_cases cq7:xq2<(ac.length:Int)
      ·rw[if_pos cq7] at H;have cq8:decide (xq2<(ac.length:Int))=true:=decide_eq_true cq7;clear cq7;replace H:=bE H;obtain⟨⟨tq1,tq2⟩,Aq1,H⟩:=H;dsimp only at H;replace H:=ifN H;obtain⟨cq9,H⟩:=H;have cq10:=eq_true cq9;have cq11:decide (0≤tq1)=true:=decide_eq_true cq9;clear cq9;replace H:=ifN H;obtain⟨cq12,H⟩:=H;have cq13:=eq_true cq12;have cq14:decide (tq1≤(wrap64 (tq1+tq2)))=true:=decide_eq_true cq12;replace H:=ifN H;obtain⟨cq15,H⟩:=H;have cq16:=eq_true cq15;have cq17:decide ((wrap64 (tq1+tq2))≤(ad.length:Int))=true:=decide_eq_true cq15;replace H:=bE H;obtain⟨t174,Aq2,H⟩:=H
       by_cases aL:t174=true
       ·subst aL;replace H:=ifT H;replace H:=bE H;obtain⟨⟨tq3,tq4⟩,Aq3,H⟩:=H;dsimp only at H;replace H:=ifN H;obtain⟨av,H⟩:=H;have aC:decide (0≤xq2)=true:=decide_eq_true av;clear av
        by_cases aA:(!(tq3==((rd_T96 ac xq2).f0))||(!(tq4==((rd_T96 ac xq2).f1))))=true
        ·rw[if_pos aA] at H;have cq22:(!(tq3==((rd_T96 ac xq2).f0))||(!(tq4==((rd_T96 ac xq2).f1))))=true:=aA;clear aA;obtain rfl:=o_I H;obtain⟨aK,aO⟩:=oB NBq1;obtain⟨aF,aD,aH,aG⟩:=cz4 aa.out;obtain⟨aP,aJ,aI,aN⟩:=fz4 aa.out;try go_wp2_with (first|(refine g_C 56 ?_;refine gL (some 47) Tryz.func56 #[.int .i64 ag,.int .i64 af,.int .i64 xq2] ?_;(with_reducible refine(spec_SpanOf.calls Aq1.out).mono ?_);rintro e w' ⟨rfl,⟨nd,rfl⟩⟩;refine⟨_,rfl,?_⟩;obtain⟨hczq5,hczq6⟩:=cz2 ab.out;obtain⟨hfzq5,hfzq6⟩:=fz2 ab.out;obtain⟨iq1,hiq1,_,hszq1,_⟩:=info_parts info5;obtain⟨Aq4,hcutq1,hAq1,hCq1⟩:=print_mid_of (P:=Tryz.prog) (Value.int .u8) 0 22 5 .i64 .i64 Tryz.underlying22 hiq1 hszq1 an ak ad tq1 (wrap64 (tq1+tq2)) DT (by first|omega|exact DT) DT aS.out;have HRq3:=aM (Kd.C_of_reads (h1:=fun _=>rfl) (hAq1 _ (Kd.reads_of_C aT.out)));have HCq4:=aM hCq1;clear hAq1 hCq1 hiq1 hszq1))
         (try (rw[drewN_self wr];generalize hq_:World.drewN wr _=wr;have n0_:Aside0 (wr.heap[aB]?=some (.cells #[.int .i64 ah,.int .i64 ag,.int .i64 af,.slice am ac.length al] 45 (0,0))):=⟨by rw[← hq_];exact TK⟩;have n1_:Aside0 (wr.heap[gbq2]?=some (.cells #[.int .i64 ae,.slice an ad.length ak] 47 (0,0))):=⟨by rw[← hq_];exact TK⟩;have n2_:Aside0 (Below w.heap.size w wr):=⟨by rw[← hq_];exact TB⟩;clear aa ab HB hq_;have aa:=n0_;have ab:=n1_;have HB:=n2_;clear n0_ n1_ n2_));replace aa:=bD aa;replace ab:=bD ab;replace HB:=aM (below_drew1 HB.out);have pq2:0≤(xq2:Int):=DT;have qq1:xq2<(ac.length:Int):=DT;obtain⟨adq1,eq1,ap,ao⟩:=at_T96 au.out xq2 pq2 qq1;have aj:=ao;have ai:=ap;cases eq1;replace ap:=(HB.out.cell (World.block_lt_of_cell? w _ ap)).trans ap;replace ao:=(HB.out.cell (World.block_lt_of_cell? w _ ao)).trans ao;replace pq2:=eq_true pq2;replace qq1:=eq_true qq1;refine st_ (n:=26) (ds:=[]) (Array.replicate 26 false) (hJ2 ab.out (hJ4 aa.out (hX (b_W HB ai) (hE (b_W HB aj))))) (by kernel_rfl) rfl rfl (fun hHeld=>?_);refine with_tabW spec_BuildOk.tab8 spec_BuildOk.bits8 (fun HT_ HW_=>?_);generalize wr.drew=wq3 at aa ab HB ap ao hHeld ⊢;refine ppq 0 57 ?_;refine ppq 2 59 ?_;refine ptq 1 58 ?_;refine poq 3 60 (fun K hK=>?_);refine gG Tryz.func82 #[.int .i64 ae,.int .i64 xq2] ?_;with_reducible refine(spec_InSet.calls Aq2.out).mono ?_
         rintro e w' ⟨rfl,⟨nd,rfl⟩⟩;refine⟨_,rfl,?_⟩;refine hK.out _ _ (cJ2 ab.out (cJ4 aa.out ⟨(b_W HB ai),(b_W HB aj)⟩)) (fun hHeld=>?_);clear hK K;refine nR ?_;refine ppq 4 61 ?_;refine ppq 5 62 ?_;refine ppq 7 64 ?_;refine ppq 9 66 ?_;refine ptq 8 65 ?_;refine ppq 10 67 ?_;refine ptq 11 68 ?_;refine poq 6 63 (fun K hK=>?_);refine goes_ Tryz.func83 (by kernel_rfl) rfl #[.slice Aq4 ((ad.take ((wrap64 (tq1+tq2)):Int).toNat).drop (tq1:Int).toNat).length (ak - tq1.toNat)] (by rfl) rfl rfl (by exact Zq7_0) ?_;with_reducible refine(spec_SumOf.calls ?side1 ?side2 Aq3.out).mono ?_
         (case side1=>exact Zq7_1);(case side2=>exact HCq4.out);rintro e wq4 ⟨rfl,hb⟩;refine⟨_,rfl,?_⟩;replace aa:=mB aa hb;replace ab:=mB ab hb;replace HB:=bS HB hb;(try clear hb);refine hK.out _ _ (cJ2 ab.out (cJ4 aa.out ⟨(b_W HB ai),(b_W HB aj)⟩)) (fun hHeld=>?_);clear hK K;refine nR ?_;refine ppq 12 69 ?_;refine ppq 13 70 ?_;refine ppq 14 71 ?_;refine pxq 15 72 ?_;refine pxq 16 73 ?_;refine pxq 17 74 ?_;refine pxq 18 75 ?_;refine pxq 19 76 ?_;refine pxq 20 77 ?_;refine pxq 21 78 ?_;refine pxq 22 79 ?_;refine pxq 23 80 ?_;refine pxq 24 81 ?_;refine ppq 25 82 ?_;refine done_ (done_of HT_.out (by kernel_rfl)) ?_;try go_wp2
         go_ret
         exact⟨TE,TB⟩
        ·rw[if_neg aA] at H;have cq22:(!(tq3==((rd_T96 ac xq2).f0))||(!(tq4==((rd_T96 ac xq2).f1))))=false:=by simpa using aA
         clear aA;replace H:=bE H;obtain⟨t178,Aq4,H⟩:=H;obtain⟨aK,aO⟩:=oB NBq1;obtain⟨aF,aD,aH,aG⟩:=cz4 aa.out;obtain⟨aP,aJ,aI,aN⟩:=fz4 aa.out;try go_wp2_with (first|(refine g_C 56 ?_;refine gL (some 47) Tryz.func56 #[.int .i64 ag,.int .i64 af,.int .i64 xq2] ?_;(with_reducible refine(spec_SpanOf.calls Aq1.out).mono ?_);rintro e w' ⟨rfl,⟨nd,rfl⟩⟩;refine⟨_,rfl,?_⟩;obtain⟨hczq5,hczq6⟩:=cz2 ab.out;obtain⟨hfzq5,hfzq6⟩:=fz2 ab.out;obtain⟨iq1,hiq1,_,hszq1,_⟩:=info_parts info5;obtain⟨Aq6z,hcutq1,hAq1,hCq1⟩:=print_mid_of (P:=Tryz.prog) (Value.int .u8) 0 22 5 .i64 .i64 Tryz.underlying22 hiq1 hszq1 an ak ad tq1 (wrap64 (tq1+tq2)) DT (by first|omega|exact DT) DT aS.out;have HRq3:=aM (Kd.C_of_reads (h1:=fun _=>rfl) (hAq1 _ (Kd.reads_of_C aT.out)));have HCq4:=aM hCq1;clear hAq1 hCq1 hiq1 hszq1))
         (try (rw[drewN_self wr];generalize hq_:World.drewN wr _=wr;have n0_:Aside0 (wr.heap[aB]?=some (.cells #[.int .i64 ah,.int .i64 ag,.int .i64 af,.slice am ac.length al] 45 (0,0))):=⟨by rw[← hq_];exact TK⟩;have n1_:Aside0 (wr.heap[gbq2]?=some (.cells #[.int .i64 ae,.slice an ad.length ak] 47 (0,0))):=⟨by rw[← hq_];exact TK⟩;have n2_:Aside0 (Below w.heap.size w wr):=⟨by rw[← hq_];exact TB⟩;clear aa ab HB hq_;have aa:=n0_;have ab:=n1_;have HB:=n2_;clear n0_ n1_ n2_));replace aa:=bD aa;replace ab:=bD ab;replace HB:=aM (below_drew1 HB.out);have pq2:0≤(xq2:Int):=DT;have qq1:xq2<(ac.length:Int):=DT;obtain⟨adq1,eq1,ap,ao⟩:=at_T96 au.out xq2 pq2 qq1;have aj:=ao;have ai:=ap;cases eq1;replace ap:=(HB.out.cell (World.block_lt_of_cell? w _ ap)).trans ap;replace ao:=(HB.out.cell (World.block_lt_of_cell? w _ ao)).trans ao;replace pq2:=eq_true pq2;replace qq1:=eq_true qq1;refine st_ (n:=26) (ds:=[]) (Array.replicate 26 false) (hJ2 ab.out (hJ4 aa.out (hX (b_W HB ai) (hE (b_W HB aj))))) (by kernel_rfl) rfl rfl (fun hHeld=>?_);refine with_tabW spec_BuildOk.tab8 spec_BuildOk.bits8 (fun HT_ HW_=>?_);generalize wr.drew=wq3 at aa ab HB ap ao hHeld ⊢;refine ppq 0 57 ?_;refine ppq 2 59 ?_;refine ptq 1 58 ?_;refine poq 3 60 (fun K hK=>?_);refine gG Tryz.func82 #[.int .i64 ae,.int .i64 xq2] ?_;with_reducible refine(spec_InSet.calls Aq2.out).mono ?_
         rintro e w' ⟨rfl,⟨nd,rfl⟩⟩;refine⟨_,rfl,?_⟩;refine hK.out _ _ (cJ2 ab.out (cJ4 aa.out ⟨(b_W HB ai),(b_W HB aj)⟩)) (fun hHeld=>?_);clear hK K;refine nR ?_;refine ppq 4 61 ?_;refine ppq 5 62 ?_;refine ppq 7 64 ?_;refine ppq 9 66 ?_;refine ptq 8 65 ?_;refine ppq 10 67 ?_;refine ptq 11 68 ?_;refine poq 6 63 (fun K hK=>?_);refine goes_ Tryz.func83 (by kernel_rfl) rfl #[.slice Aq6z ((ad.take ((wrap64 (tq1+tq2)):Int).toNat).drop (tq1:Int).toNat).length (ak - tq1.toNat)] (by rfl) rfl rfl (by exact Zq7_0) ?_;with_reducible refine(spec_SumOf.calls ?side1 ?side2 Aq3.out).mono ?_
         (case side1=>exact Zq7_1);(case side2=>exact HCq4.out);rintro e wq4 ⟨rfl,hb⟩;refine⟨_,rfl,?_⟩;replace aa:=mB aa hb;replace ab:=mB ab hb;replace HB:=bS HB hb;(try clear hb);refine hK.out _ _ (cJ2 ab.out (cJ4 aa.out ⟨(b_W HB ai),(b_W HB aj)⟩)) (fun hHeld=>?_);clear hK K;refine nR ?_;refine ppq 12 69 ?_;refine ppq 13 70 ?_;refine ppq 14 71 ?_;refine ppq 15 72 ?_;refine ppq 17 74 ?_;refine ptq 16 73 ?_;refine poq 18 75 (fun K hK=>?_);refine gG Tryz.func82 #[.int .i64 ae,.int .i64 xq2] ?_;with_reducible refine(spec_InSet.calls Aq4.out).mono ?_
         rintro e w' ⟨rfl,⟨nd,rfl⟩⟩;refine⟨_,rfl,?_⟩;refine hK.out _ _ (cJ2 ab.out (cJ4 aa.out ⟨(b_W HB ai),(b_W HB aj)⟩)) (fun hHeld=>?_);clear hK K;refine nR ?_;refine ppq 19 76 ?_;refine ppq 20 77 ?_
         by_cases aE:t178=true
         ·subst aE;replace H:=ifT H;have H':=aM H;clear H;refine pxq 21 78 ?_;refine pxq 22 79 ?_;refine pxq 23 80 ?_;refine ppq 24 81 ?_;refine ppq 25 82 ?_;refine done_ (done_of HT_.out (by kernel_rfl)) ?_;exact Yq7_1
         ·replace aE:=b_F aE;subst aE;replace H:=ifF H;replace H:=bE H;obtain⟨t179,Aq5,H⟩:=H;refine ppq 21 78 ?_;refine poq 22 79 (fun K hK=>?_);refine goes_ Tryz.func84 (by kernel_rfl) rfl #[.slice Aq6z ((ad.take ((wrap64 (tq1+tq2)):Int).toNat).drop (tq1:Int).toNat).length (ak - tq1.toNat)] (by rfl) rfl rfl (by exact Zq7_0) ?_;with_reducible refine(spec_l8Zero.calls ?side1 ?side2 Aq5.out).mono ?_
          (case side1=>exact Zq7_1);(case side2=>exact HCq4.out);rintro e w' ⟨rfl,⟨nd,rfl⟩⟩;refine⟨_,rfl,?_⟩;refine hK.out _ _ (cJ2 ab.out (cJ4 aa.out ⟨(b_W HB ai),(b_W HB aj)⟩)) (fun hHeld=>?_);clear hK K;refine nR ?_;refine ppq 23 80 ?_;refine ppq 24 81 ?_;refine ppq 25 82 ?_;refine done_ (done_of HT_.out (by kernel_rfl)) ?_
          by_cases aQ:t179=true
          ·subst aQ;replace H:=ifT H;have H':=aM H;clear H;exact Yq7_1
          ·replace aQ:=b_F aQ;subst aQ;replace H:=ifF H;obtain rfl:=o_I H;try go_wp2
           go_ret
           exact⟨TE,TB⟩
       ·replace aL:=b_F aL;subst aL;replace H:=ifF H;replace H:=bE H;obtain⟨t180,Aq3,H⟩:=H;obtain⟨aK,aO⟩:=oB NBq1;obtain⟨aF,aD,aH,aG⟩:=cz4 aa.out;obtain⟨aP,aJ,aI,aN⟩:=fz4 aa.out;try go_wp2_with (first|(refine g_C 56 ?_;refine gL (some 47) Tryz.func56 #[.int .i64 ag,.int .i64 af,.int .i64 xq2] ?_;(with_reducible refine(spec_SpanOf.calls Aq1.out).mono ?_);rintro e w' ⟨rfl,⟨nd,rfl⟩⟩;refine⟨_,rfl,?_⟩;obtain⟨hczq5,hczq6⟩:=cz2 ab.out;obtain⟨hfzq5,hfzq6⟩:=fz2 ab.out;obtain⟨iq1,hiq1,_,hszq1,_⟩:=info_parts info5;obtain⟨Aq5z,hcutq1,hAq1,hCq1⟩:=print_mid_of (P:=Tryz.prog) (Value.int .u8) 0 22 5 .i64 .i64 Tryz.underlying22 hiq1 hszq1 an ak ad tq1 (wrap64 (tq1+tq2)) DT (by first|omega|exact DT) DT aS.out;have HRq3:=aM (Kd.C_of_reads (h1:=fun _=>rfl) (hAq1 _ (Kd.reads_of_C aT.out)));have HCq4:=aM hCq1;clear hAq1 hCq1 hiq1 hszq1))
        (try (rw[drewN_self wr];generalize hq_:World.drewN wr _=wr;have n0_:Aside0 (wr.heap[aB]?=some (.cells #[.int .i64 ah,.int .i64 ag,.int .i64 af,.slice am ac.length al] 45 (0,0))):=⟨by rw[← hq_];exact TK⟩;have n1_:Aside0 (wr.heap[gbq2]?=some (.cells #[.int .i64 ae,.slice an ad.length ak] 47 (0,0))):=⟨by rw[← hq_];exact TK⟩;have n2_:Aside0 (Below w.heap.size w wr):=⟨by rw[← hq_];exact TB⟩;clear aa ab HB hq_;have aa:=n0_;have ab:=n1_;have HB:=n2_;clear n0_ n1_ n2_));replace aa:=bD aa;replace ab:=bD ab;replace HB:=aM (below_drew1 HB.out);refine st_ (n:=26) (ds:=[]) (Array.replicate 26 false) (hK2 ab.out) (by kernel_rfl) rfl rfl (fun hHeld=>?_);refine with_tabW spec_BuildOk.tab8 spec_BuildOk.bits8 (fun HT_ HW_=>?_);generalize wr.drew=wq3 at aa ab HB hHeld ⊢;refine ppq 0 57 ?_;refine ppq 2 59 ?_;refine ptq 1 58 ?_;refine poq 3 60 (fun K hK=>?_);refine gG Tryz.func82 #[.int .i64 ae,.int .i64 xq2] ?_;with_reducible refine(spec_InSet.calls Aq2.out).mono ?_
        rintro e w' ⟨rfl,⟨nd,rfl⟩⟩;refine⟨_,rfl,?_⟩;refine hK.out _ _ (cz2 ab.out) (fun hHeld=>?_);clear hK K;refine nR ?_;refine ppq 4 61 ?_;refine pxq 5 62 ?_;refine pxq 6 63 ?_;refine pxq 7 64 ?_;refine pxq 8 65 ?_;refine pxq 9 66 ?_;refine pxq 10 67 ?_;refine pxq 11 68 ?_;refine pxq 12 69 ?_;refine ppq 13 70 ?_;refine ppq 14 71 ?_;refine ppq 15 72 ?_;refine ppq 17 74 ?_;refine ptq 16 73 ?_;refine poq 18 75 (fun K hK=>?_);refine gG Tryz.func82 #[.int .i64 ae,.int .i64 xq2] ?_;with_reducible refine(spec_InSet.calls Aq3.out).mono ?_
        rintro e w' ⟨rfl,⟨nd,rfl⟩⟩;refine⟨_,rfl,?_⟩;refine hK.out _ _ (cz2 ab.out) (fun hHeld=>?_);clear hK K;refine nR ?_;refine ppq 19 76 ?_;refine ppq 20 77 ?_
        by_cases av:t180=true
        ·subst av;replace H:=ifT H;have H':=aM H;clear H;refine pxq 21 78 ?_;refine pxq 22 79 ?_;refine pxq 23 80 ?_;refine ppq 24 81 ?_;refine ppq 25 82 ?_;refine done_ (done_of HT_.out (by kernel_rfl)) ?_;exact Yq7_1
        ·replace av:=b_F av;subst av;replace H:=ifF H;replace H:=bE H;obtain⟨t181,Aq4,H⟩:=H;refine ppq 21 78 ?_;refine poq 22 79 (fun K hK=>?_);refine goes_ Tryz.func84 (by kernel_rfl) rfl #[.slice Aq5z ((ad.take ((wrap64 (tq1+tq2)):Int).toNat).drop (tq1:Int).toNat).length (ak - tq1.toNat)] (by rfl) rfl rfl (by exact Zq7_0) ?_;with_reducible refine(spec_l8Zero.calls ?side1 ?side2 Aq4.out).mono ?_
         (case side1=>exact Zq7_1);(case side2=>exact HCq4.out);rintro e w' ⟨rfl,⟨nd,rfl⟩⟩;refine⟨_,rfl,?_⟩;refine hK.out _ _ (cz2 ab.out) (fun hHeld=>?_);clear hK K;refine nR ?_;refine ppq 23 80 ?_;refine ppq 24 81 ?_;refine ppq 25 82 ?_;refine done_ (done_of HT_.out (by kernel_rfl)) ?_
         by_cases aC:t181=true
         ·subst aC;replace H:=ifT H;have H':=aM H;clear H;exact Yq7_1
         ·replace aC:=b_F aC;subst aC;replace H:=ifF H;obtain rfl:=o_I H;try go_wp2
          go_ret
          exact⟨TE,TB⟩
      ·rw[if_neg cq7] at H;have cq8:decide (xq2<(ac.length:Int))=false:=decide_eq_false cq7;clear cq7;obtain rfl:=o_I H;obtain⟨aK,aO⟩:=oB NBq1;obtain⟨aF,aD,aH,aG⟩:=cz4 aa.out;obtain⟨aP,aJ,aI,aN⟩:=fz4 aa.out;go_wp2
       go_ret
       exact⟨TE,TB⟩
attribute [local go_sem] min2_int min_two
def spec_Missing.f (a:Int)(b:Int)(c:Int)(d:List (S96))(e:Int)(h:List Int):Option (Int):=(spec_AllParts.f a b c d).bind fun f=>((spec_Without.f f e).bind fun g=>(some g))
theorem spec_Missing.calls {a0_0:Int}{a0_1:Int}{a0_2:Int}{A0_3:Option Addr}{c0_3:Nat}{l0_3:List (S96)}{a1_0:Int}{A1_1:Option Addr}{c1_1:Nat}{l1_1:List Int}{r:Int}{w:World}(hr0_3:Kd.C k96 w A0_3 l0_3.length l0_3)(hc0_3:l0_3.length≤c0_3)(hr1_1:Kd.C (Kd.int .u8) w A1_1 l1_1.length l1_1)(hc1_1:l1_1.length≤c1_1)(h:spec_Missing.f a0_0 a0_1 a0_2 l0_3 a1_0 l1_1=some r):
    Calls Tryz.prog 52 #[.agg #[.int .i64 a0_0,.int .i64 a0_1,.int .i64 a0_2,.slice A0_3 l0_3.length c0_3],.agg #[.int .i64 a1_0,.slice A1_1 l1_1.length c1_1]] w fun e w'=>e=.returned (.int .i64 r)∧Below w.heap.size w w':=by
  have hu45:=Tryz.underlying45
  have hu47:=Tryz.underlying47
  have HR0_3:=aM hr0_3
  have HC0_3:=aM hc0_3
  clear hr0_3 hc0_3
  have HR1_1:=aM hr1_1
  have HC1_1:=aM hc1_1
  clear hr1_1 hc1_1
  have HB:=aM (Below.refl w.heap.size w)
  have H:=h
  clear h
  unfold spec_Missing.f at H
  replace H:=bE H
  obtain⟨t184,A3,H⟩:=H
  replace H:=bE H
  obtain⟨t185,A4,H⟩:=H
  obtain rfl:=o_I H
  go_enter Tryz.func52,Tryz.ntmps52
  try go_wp2_with (first|(refine g_D 2 ?_;refine gBx 2 #[.int .i64 a0_0,.int .i64 a0_1,.int .i64 a0_2,.slice A0_3 l0_3.length c0_3] 45 ?_;intro gb182 hg w5 hbox hb;have BK182:=aM (hbox);have GW182:=gW HB hg;have GE182:=gW HB hg;replace HB:=bS HB hb;clear hb hbox hg)|(refine g_D 3 ?_;refine gBx 3 #[.int .i64 a1_0,.slice A1_1 l1_1.length c1_1] 47 ?_;intro gb183 hg w6 hbox hb;have BK183:=aM (hbox);have GW183:=gW HB hg;have GE183:=gW HB hg;obtain⟨NB182_183,NB183_182⟩:=nB BK182 hg;replace BK182:=mB BK182 hb;replace HB:=bS HB hb;clear hb hbox hg))
  replace BK182:=bD BK182
  replace BK183:=bD BK183
  replace HB:=aM (below_drew1 HB.out)
  refine st_ (n:=6) (ds:=[]) (Array.replicate 6 false) (hJ4 BK182.out (hK2 BK183.out)) (by kernel_rfl) rfl rfl (fun hHeld=>?_)
  generalize w6.drew=w7 at BK182 BK183 HB hHeld ⊢
  refine ppq 2 7 ?_
  refine ptq 0 5 ?_
  refine ptq 3 8 ?_
  refine poq 1 6 (fun K hK=>?_)
  refine gG Tryz.func81 #[.agg #[.int .i64 a0_0,.int .i64 a0_1,.int .i64 a0_2,.slice A0_3 l0_3.length c0_3]] ?_
  with_reducible refine(spec_AllParts.calls ?side1 ?side2 A3.out).mono ?_
  (case side1=>have X_:=(Kd.C_below HR0_3.out HB.out);exact TC)
  (case side2=>exact HC0_3.out)
  rintro e w8 ⟨rfl,hb⟩
  refine⟨_,rfl,?_⟩
  replace BK182:=mB BK182 hb
  replace BK183:=mB BK183 hb
  replace HB:=bS HB hb
  (try clear hb)
  (try clear hb2)
  (try clear hk)
  (try clear hi)
  refine hK.out _ _ (cJ4 BK182.out (cK2 BK183.out)) (fun hHeld=>?_)
  clear hK K
  refine nR ?_
  refine poq 4 9 (fun K hK=>?_)
  refine gG Tryz.func80 #[.int .i64 t184,.int .i64 a1_0] ?_
  with_reducible refine(spec_Without.calls A4.out).mono ?_
  rintro e w' ⟨rfl,⟨nd,rfl⟩⟩
  refine⟨_,rfl,?_⟩
  refine hK.out _ _ (cJ4 BK182.out (cK2 BK183.out)) (fun hHeld=>?_)
  clear hK K
  refine nR ?_
  refine ppq 5 4 ?_
  refine done_ (by kernel_rfl) ?_
  try go_wp2
  go_ret
  exact⟨TE,TB⟩
def spec_Whole.f (k:Nat)(a:Int)(b:Int)(c:Int)(d:List (S96))(e:Int)(f:List Int):Option (Bool):=if a=0 then (some false) else ((spec_BuildOk.f k a b c d e f).bind fun g=>(if g=true then ((spec_Missing.f a b c d e f).bind fun h=>(some (h==0))) else (some false)))
theorem spec_Whole.mono :∀a b c d e f k,LeO (spec_Whole.f k a b c d e f) (spec_Whole.f (k+1) a b c d e f):=by
  intro a0 a1 a2 a3 a4 a5 k;have m0_:=@spec_BuildOk.mono;unfold spec_Whole.f;exact LM
theorem spec_Whole.calls {k:Nat}{a0_0:Int}{a0_1:Int}{a0_2:Int}{A0_3:Option Addr}{c0_3:Nat}{l0_3:List (S96)}{a1_0:Int}{A1_1:Option Addr}{c1_1:Nat}{l1_1:List Int}{r:Bool}{w:World}(hr0_3:Kd.C k96 w A0_3 l0_3.length l0_3)(hc0_3:l0_3.length≤c0_3)(hr1_1:Kd.C (Kd.int .u8) w A1_1 l1_1.length l1_1)(hc1_1:l1_1.length≤c1_1)(h:spec_Whole.f k a0_0 a0_1 a0_2 l0_3 a1_0 l1_1=some r):
    Calls Tryz.prog 25 #[.agg #[.int .i64 a0_0,.int .i64 a0_1,.int .i64 a0_2,.slice A0_3 l0_3.length c0_3],.agg #[.int .i64 a1_0,.slice A1_1 l1_1.length c1_1]] w fun e w'=>e=.returned (.bool r)∧Below w.heap.size w w':=by
  have hu45:=Tryz.underlying45
  have hu47:=Tryz.underlying47
  have HR0_3:=aM hr0_3
  have HC0_3:=aM hc0_3
  clear hr0_3 hc0_3
  have HR1_1:=aM hr1_1
  have HC1_1:=aM hc1_1
  clear hr1_1 hc1_1
  have HB:=aM (Below.refl w.heap.size w)
  have H:=h
  clear h
  unfold spec_Whole.f at H
  by_cases c3:a0_0=0
  · rw[if_pos c3] at H
    have c3b0:(a0_0==0)=true:=beq_iff_eq.mpr c3
    have c3b1:(a0_0 != 0)=false:=bne_eq_false_iff_eq.mpr c3
    clear c3
    obtain rfl:=o_I H
    go_enter Tryz.func25,Tryz.ntmps25
    go_wp2_with (first|(refine g_D 2 ?_;refine gBx 2 #[.int .i64 a0_0,.int .i64 a0_1,.int .i64 a0_2,.slice A0_3 l0_3.length c0_3] 45 ?_;intro gb186 hg w4 hbox hb;have BK186:=aM (hbox);have GW186:=gW HB hg;have GE186:=gW HB hg;replace HB:=bS HB hb;clear hb hbox hg)|(refine g_D 3 ?_;refine gBx 3 #[.int .i64 a1_0,.slice A1_1 l1_1.length c1_1] 47 ?_;intro gb187 hg w5 hbox hb;have BK187:=aM (hbox);have GW187:=gW HB hg;have GE187:=gW HB hg;obtain⟨NB186_187,NB187_186⟩:=nB BK186 hg;replace BK186:=mB BK186 hb;replace HB:=bS HB hb;clear hb hbox hg;obtain⟨hnb6,hnc6⟩:=oB NB186_187;obtain⟨hcz7_0,hcz7_1,hcz7_2,hcz7_3⟩:=cz4 BK186.out;obtain⟨hfz7_0,hfz7_1,hfz7_2,hfz7_3⟩:=fz4 BK186.out))
    go_ret
    exact⟨TE,TB⟩
  · rw[if_neg c3] at H
    have c3b0:(a0_0==0)=false:=beq_eq_false_iff_ne.mpr c3
    have c3b1:(a0_0 != 0)=true:=bne_iff_ne.mpr c3
    replace H:=bE H
    obtain⟨t188,A8,H⟩:=H
    by_cases c9:t188=true
    · subst c9
      replace H:=ifT H
      replace H:=bE H
      obtain⟨t189,A10,H⟩:=H
      obtain rfl:=o_I H
      go_enter Tryz.func25,Tryz.ntmps25
      go_wp2_with (first|(refine g_D 2 ?_;refine gBx 2 #[.int .i64 a0_0,.int .i64 a0_1,.int .i64 a0_2,.slice A0_3 l0_3.length c0_3] 45 ?_;intro gb186 hg w11 hbox hb;have BK186:=aM (hbox);have GW186:=gW HB hg;have GE186:=gW HB hg;replace HB:=bS HB hb;clear hb hbox hg)|(refine g_D 3 ?_;refine gBx 3 #[.int .i64 a1_0,.slice A1_1 l1_1.length c1_1] 47 ?_;intro gb187 hg w12 hbox hb;have BK187:=aM (hbox);have GW187:=gW HB hg;have GE187:=gW HB hg;obtain⟨NB186_187,NB187_186⟩:=nB BK186 hg;replace BK186:=mB BK186 hb;replace HB:=bS HB hb;clear hb hbox hg;obtain⟨hnb13,hnc13⟩:=oB NB186_187;obtain⟨hcz14_0,hcz14_1,hcz14_2,hcz14_3⟩:=cz4 BK186.out;obtain⟨hfz14_0,hfz14_1,hfz14_2,hfz14_3⟩:=fz4 BK186.out;obtain⟨hcz15_0,hcz15_1⟩:=cz2 BK187.out;obtain⟨hfz15_0,hfz15_1⟩:=fz2 BK187.out)|(go_at_call 51;(with_reducible refine(spec_BuildOk.calls ?side1 ?side2 ?side3 ?side4 A8.out).mono ?_);(case side1=>have X_:=(Kd.C_below HR0_3.out HB.out);exact TC);(case side2=>exact HC0_3.out);(case side3=>have X_:=(Kd.C_below HR1_1.out HB.out);exact TC);(case side4=>exact HC1_1.out);rintro e w16 ⟨rfl,hb⟩;replace BK186:=mB BK186 hb;replace BK187:=mB BK187 hb;replace HB:=bS HB hb;clear hb;obtain⟨hcz17_0,hcz17_1,hcz17_2,hcz17_3⟩:=cz4 BK186.out;obtain⟨hfz17_0,hfz17_1,hfz17_2,hfz17_3⟩:=fz4 BK186.out;obtain⟨hcz18_0,hcz18_1⟩:=cz2 BK187.out;obtain⟨hfz18_0,hfz18_1⟩:=fz2 BK187.out)|(go_at_call 52;(with_reducible refine(spec_Missing.calls ?side1 ?side2 ?side3 ?side4 A10.out).mono ?_);(case side1=>have X_:=(Kd.C_below HR0_3.out HB.out);exact TC);(case side2=>exact HC0_3.out);(case side3=>have X_:=(Kd.C_below HR1_1.out HB.out);exact TC);(case side4=>exact HC1_1.out);rintro e w19 ⟨rfl,hb⟩;replace BK186:=mB BK186 hb;replace BK187:=mB BK187 hb;replace HB:=bS HB hb;clear hb))
      go_ret
      exact⟨TE,TB⟩
    · replace c9:=b_F c9
      subst c9
      replace H:=ifF H
      obtain rfl:=o_I H
      go_enter Tryz.func25,Tryz.ntmps25
      go_wp2_with (first|(refine g_D 2 ?_;refine gBx 2 #[.int .i64 a0_0,.int .i64 a0_1,.int .i64 a0_2,.slice A0_3 l0_3.length c0_3] 45 ?_;intro gb186 hg w20 hbox hb;have BK186:=aM (hbox);have GW186:=gW HB hg;have GE186:=gW HB hg;replace HB:=bS HB hb;clear hb hbox hg)|(refine g_D 3 ?_;refine gBx 3 #[.int .i64 a1_0,.slice A1_1 l1_1.length c1_1] 47 ?_;intro gb187 hg w21 hbox hb;have BK187:=aM (hbox);have GW187:=gW HB hg;have GE187:=gW HB hg;obtain⟨NB186_187,NB187_186⟩:=nB BK186 hg;replace BK186:=mB BK186 hb;replace HB:=bS HB hb;clear hb hbox hg;obtain⟨hnb22,hnc22⟩:=oB NB186_187;obtain⟨hcz23_0,hcz23_1,hcz23_2,hcz23_3⟩:=cz4 BK186.out;obtain⟨hfz23_0,hfz23_1,hfz23_2,hfz23_3⟩:=fz4 BK186.out;obtain⟨hcz24_0,hcz24_1⟩:=cz2 BK187.out;obtain⟨hfz24_0,hfz24_1⟩:=fz2 BK187.out)|(go_at_call 51;(with_reducible refine(spec_BuildOk.calls ?side1 ?side2 ?side3 ?side4 A8.out).mono ?_);(case side1=>have X_:=(Kd.C_below HR0_3.out HB.out);exact TC);(case side2=>exact HC0_3.out);(case side3=>have X_:=(Kd.C_below HR1_1.out HB.out);exact TC);(case side4=>exact HC1_1.out);rintro e w25 ⟨rfl,hb⟩;replace BK186:=mB BK186 hb;replace BK187:=mB BK187 hb;replace HB:=bS HB hb;clear hb))
      go_ret
      exact⟨TE,TB⟩
def spec_Spare.f (b:List Int)(c:List Int)(d:Int)(a:Int)(e:Int)(f:List (S91)):Option (Int):=some (wrap64 (1 - a))
theorem spec_Spare.calls {A0_0:Option Addr}{c0_0:Nat}{l0_0:List Int}{A0_1:Option Addr}{c0_1:Nat}{l0_1:List Int}{a0_2:Int}{a0_3:Int}{a0_4:Int}{A0_5:Option Addr}{c0_5:Nat}{l0_5:List (S91)}{r:Int}{w:World}(hr0_0:Kd.C (Kd.int .u8) w A0_0 l0_0.length l0_0)(hc0_0:l0_0.length≤c0_0)(hr0_1:Kd.C (Kd.int .u8) w A0_1 l0_1.length l0_1)(hc0_1:l0_1.length≤c0_1)(hr0_5:Kd.C k91 w A0_5 l0_5.length l0_5)(hc0_5:l0_5.length≤c0_5)(h:spec_Spare.f l0_0 l0_1 a0_2 a0_3 a0_4 l0_5=some r):
    Calls Tryz.prog 29 #[.agg #[.slice A0_0 l0_0.length c0_0,.slice A0_1 l0_1.length c0_1,.int .i64 a0_2,.int .i64 a0_3,.int .i64 a0_4,.slice A0_5 l0_5.length c0_5]] w fun e w'=>e=.returned (.int .i64 r)∧Below w.heap.size w w':=by
  have hu39:=Tryz.underlying39
  have HR0_0:=aM hr0_0
  have HC0_0:=aM hc0_0
  clear hr0_0 hc0_0
  have HR0_1:=aM hr0_1
  have HC0_1:=aM hc0_1
  clear hr0_1 hc0_1
  have HR0_5:=aM hr0_5
  have HC0_5:=aM hc0_5
  clear hr0_5 hc0_5
  have HB:=aM (Below.refl w.heap.size w)
  have H:=h
  clear h
  unfold spec_Spare.f at H
  obtain rfl:=o_I H
  go_enter Tryz.func29,Tryz.ntmps29
  go_wp2_with (first|(refine g_D 1 ?_;refine gBx 1 #[.slice A0_0 l0_0.length c0_0,.slice A0_1 l0_1.length c0_1,.int .i64 a0_2,.int .i64 a0_3,.int .i64 a0_4,.slice A0_5 l0_5.length c0_5] 39 ?_;intro gb190 hg w2 hbox hb;have BK190:=aM (hbox);have GW190:=gW HB hg;have GE190:=gW HB hg;replace HB:=bS HB hb;clear hb hbox hg;obtain⟨hcz3_0,hcz3_1,hcz3_2,hcz3_3,hcz3_4,hcz3_5⟩:=cz6 BK190.out;obtain⟨hfz3_0,hfz3_1,hfz3_2,hfz3_3,hfz3_4,hfz3_5⟩:=fz6 BK190.out))
  go_ret
  exact⟨TE,TB⟩
def spec_l9CopyPut.f (c:Int)(d:Int)(a:List Int)(e:Int)(f:Int)(g:Int):Option (Int×Int×List Int×Int×Int×Int):=(some (([]:List Int):List Int)).bind fun b=>(if b.length+a.length<140737488355328 then (some (c,d,(b++a),e,f,g)) else (none))
theorem spec_l9CopyPut.calls {a0_0:Int}{a0_1:Int}{A0_2:Option Addr}{c0_2:Nat}{l0_2:List Int}{a0_3:Int}{a0_4:Int}{a0_5:Int}{r1:Int}{r2:Int}{r3:List Int}{r4:Int}{r5:Int}{r6:Int}{w:World}(hr0_2:Kd.C (Kd.int .u8) w A0_2 l0_2.length l0_2)(hc0_2:l0_2.length≤c0_2)(h:spec_l9CopyPut.f a0_0 a0_1 l0_2 a0_3 a0_4 a0_5=some (r1,r2,r3,r4,r5,r6)):
    Calls Tryz.prog 61 #[.agg #[.int .i64 a0_0,.int .i64 a0_1,.slice A0_2 l0_2.length c0_2,.int .i64 a0_3,.int .i64 a0_4,.int .i64 a0_5]] w fun e w'=>∃v2_:Value,e=.returned (.agg #[.int .i64 r1,.int .i64 r2,v2_,.int .i64 r4,.int .i64 r5,.int .i64 r6])∧Kd.R (Kd.int .u8) 5 w' w.heap.size (fun _=>True) v2_ r3∧Below w.heap.size w w':=by
  have hu91:=Tryz.underlying91
  have HR0_2:=aM hr0_2
  have HC0_2:=aM hc0_2
  clear hr0_2 hc0_2
  have HB:=aM (Below.refl w.heap.size w)
  have H:=h
  clear h
  unfold spec_l9CopyPut.f at H
  obtain⟨y194,hy194⟩:∃y_:List Int,y_=(([]:List Int)):=⟨_,rfl⟩
  replace H:=someE H hy194
  have Ny194:=aM hy194
  clear hy194
  replace H:=ifN H
  obtain⟨c2,H⟩:=H
  have LMc2:=aM c2
  clear c2
  obtain⟨y197,hy197⟩:∃y_:List Int,y_=(y194++l0_2):=⟨_,rfl⟩
  rw[← hy197] at H
  have Ny197:=aM hy197
  clear hy197
  simp only[Option.some.injEq,Prod.mk.injEq] at H
  obtain⟨rfl,rfl,rfl,rfl,rfl,rfl⟩:=H
  go_enter Tryz.func61,Tryz.ntmps61
  go_wp2_with (first|(refine g_D 1 ?_;refine gBx 1 #[.int .i64 a0_0,.int .i64 a0_1,.slice A0_2 l0_2.length c0_2,.int .i64 a0_3,.int .i64 a0_4,.int .i64 a0_5] 91 ?_;intro gb191 hg w3 hbox hb;have BK191:=aM (hbox);have GW191:=gW HB hg;have GE191:=gW HB hg;replace HB:=bS HB hb;clear hb hbox hg)|(refine g_D 2 ?_;refine gBx 2 #[.int .i64 0,.int .i64 0,.slice none 0 0,.int .i64 0,.int .i64 0,.int .i64 0] 91 ?_;intro gb192 hg w4 hbox hb;have BK192:=aM (hbox);have GW192:=gW HB hg;have GE192:=gW HB hg;obtain⟨NB191_192,NB192_191⟩:=nB BK191 hg;replace BK191:=mB BK191 hb;replace HB:=bS HB hb;clear hb hbox hg;obtain⟨hnb5,hnc5⟩:=oB NB191_192;obtain⟨hcz6_0,hcz6_1,hcz6_2,hcz6_3,hcz6_4,hcz6_5⟩:=cz6 BK191.out;obtain⟨hfz6_0,hfz6_1,hfz6_2,hfz6_3,hfz6_4,hfz6_5⟩:=fz6 BK191.out)|(refine g_D 3 ?_;refine gBx 3 #[.int .i64 0,.int .i64 0,.slice none 0 0,.int .i64 0,.int .i64 0,.int .i64 0] 91 ?_;intro gb193 hg w7 hbox hb;have BK193:=aM (hbox);have GW193:=gW HB hg;have GE193:=gW HB hg;obtain⟨NB191_193,NB193_191⟩:=nB BK191 hg;obtain⟨NB192_193,NB193_192⟩:=nB BK192 hg;replace BK191:=mB BK191 hb;replace BK192:=mB BK192 hb;replace HB:=bS HB hb;clear hb hbox hg;obtain⟨hnb8,hnc8⟩:=oB NB193_191;obtain⟨hnb9,hnc9⟩:=oB NB193_192;obtain⟨hcz10_0,hcz10_1,hcz10_2,hcz10_3,hcz10_4,hcz10_5⟩:=cz6 BK193.out;obtain⟨hfz10_0,hfz10_1,hfz10_2,hfz10_3,hfz10_4,hfz10_5⟩:=fz6 BK193.out)|(refine g_D 5 ?_;refine Kd.R_lit (Kd.int .u8) _ 5 ?hg (N:=5) ?hd (xs:=([]:List Int)) (inner:=[]) (ok:=fun _=>True) (okp:=fun _=>True) ?hr ?hp (fun _ hk=>hk) trivial (Below.refl _ _) (Nat.le_refl _) (by simp) ?_;(case hd=>rfl);(case hg=>rfl);(case hr=>first|(go_simp;done)|(go_simp;rfl));(case hp=>exact(Reps.none _ _));intro v195 w11 ho12 hb hg_ hnew_;clear hg_ hnew_;(first|rw[← Ny194.out] at ho12|(simp only[Int.reduceToNat] at ho12;rw[← Ny194.out] at ho12));have HO196:=aM (Kd.R_lower ho12 (below_size TB));replace BK191:=mB BK191 hb;replace BK192:=mB BK192 hb;replace BK193:=aM (blk_below (g:=gb193) (o:=.cells #[.int .i64 a0_0,.int .i64 a0_1,.slice A0_2 l0_2.length c0_2,.int .i64 a0_3,.int .i64 a0_4,.int .i64 a0_5] 91 (0,0)) (blk_put (blk_put (blk_put (blk_put (blk_put (blk_put (cs:=#[.int .i64 0,.int .i64 0,.slice none 0 0,.int .i64 0,.int .i64 0,.int .i64 0]) (TZ BK193) 0 _ rfl) 1 _ rfl) 2 _ rfl) 3 _ rfl) 4 _ rfl) 5 _ rfl) hb);replace HB:=bS HB hb;clear hb ho12;obtain⟨hcz13_0,hcz13_1,hcz13_2,hcz13_3,hcz13_4,hcz13_5⟩:=cz6 BK191.out;obtain⟨hfz13_0,hfz13_1,hfz13_2,hfz13_3,hfz13_4,hfz13_5⟩:=fz6 BK191.out)|((with_reducible refine gate_builtin (b:=.append) (xs:=#[.tmp 5,.tmp 7]) rfl ?_);at_builtin;refine Kd.R_append_rows (Kd.int .u8) (w0:=w) w.heap.size rfl (.tmp 5) (.tmp 7) 22 5 (.int .u8 0) 1 rfl Tryz.underlying22 info5 rfl (by decide) (by omega) v195 y194 l0_2 _ _ _ (fun _=>True) (fun _=>False) rfl rfl ?aO ?aR (fun _ _ h=>h) (fun _ h=>h.elim) ?aF ?aB ?aS ?aL ?_;(case aR=>repeat (first|exact(Kd.C_below HR0_2.out HB.out)|(with_reducible refine Kd.C_alloc ?_ _)|(with_reducible refine Kd.C_drewN ?_ _)|(with_reducible refine Kd.C_drew ?_)));(case aB=>exact TB);(case aF=>exact(fun _ _=>trivial));(case aO=>exact(TRf HO196));(case aS=>exact(below_size TB));(case aL=>have:=LMc2.out;omega);intro v198 w14 ho hb hg hat;rw[← Ny197.out] at ho;have HO199:=aM (ho);replace BK191:=aM (blk_grown (g:=gb191) (o:=.cells #[.int .i64 a0_0,.int .i64 a0_1,.slice A0_2 l0_2.length c0_2,.int .i64 a0_3,.int .i64 a0_4,.int .i64 a0_5] 91 (0,0)) TK hg (Kd.R_ne HO196.out BK191.out (by decide)));replace BK192:=aM (blk_grown (g:=gb192) (o:=.cells #[.int .i64 0,.int .i64 0,.slice none 0 0,.int .i64 0,.int .i64 0,.int .i64 0] 91 (0,0)) TK hg (Kd.R_ne HO196.out BK192.out (by decide)));replace BK193:=aM (blk_grown (g:=gb193) (o:=.cells #[.int .i64 a0_0,.int .i64 a0_1,.slice A0_2 l0_2.length c0_2,.int .i64 a0_3,.int .i64 a0_4,.int .i64 a0_5] 91 (0,0)) TK hg (Kd.R_ne HO196.out BK193.out (by decide)));replace HB:=aM (hb);clear HO196;clear ho hb hg hat;obtain⟨Ao15,co15,eo15⟩:=Kd.R_slice HO199.out;subst eo15;obtain⟨hcz16_0,hcz16_1,hcz16_2,hcz16_3,hcz16_4,hcz16_5⟩:=cz6 BK193.out;obtain⟨hfz16_0,hfz16_1,hfz16_2,hfz16_3,hfz16_4,hfz16_5⟩:=fz6 BK193.out;obtain⟨hcz17_0,hcz17_1,hcz17_2,hcz17_3,hcz17_4,hcz17_5⟩:=cz6 BK192.out;obtain⟨hfz17_0,hfz17_1,hfz17_2,hfz17_3,hfz17_4,hfz17_5⟩:=fz6 BK192.out))
  refine bodyPost_ret (results_cell_row rfl _ _ gb192 91 #[.int .i64 a0_0,.int .i64 a0_1,.slice Ao15 y197.length co15,.int .i64 a0_3,.int .i64 a0_4,.int .i64 a0_5] (0,0) _ rfl (blk_put (blk_put (blk_put (blk_put (blk_put (blk_put (cs:=#[.int .i64 0,.int .i64 0,.slice none 0 0,.int .i64 0,.int .i64 0,.int .i64 0]) (TZ BK192) 0 _ rfl) 1 _ rfl) 2 _ rfl) 3 _ rfl) 4 _ rfl) 5 _ rfl) Tryz.underlying91 rfl (by kernel_rfl)) rfl ?_
  exact⟨_,TE,by (with_reducible repeat (first|apply Kd.R_alloc|apply Kd.R_drewN|apply Kd.R_drew));exact Kd.R_mono (RK2 (Kd.R_types (Kd.R_types HO199.out BK193.out (by decide)) BK192.out (by decide))) (fun _ hk=>trivial),TB⟩
def impl_Disk_slot.f (a:Int)(o:Nat):Option Unit:=if (a=0∧o=0)∨(¬a=0∧o=1) then some () else none
theorem impl_Disk_slot.calls {g:Nat}{a1:Int}{o:Nat}(w:World)(h:impl_Disk_slot.f a1 o=some ()):
  Calls Tryz.prog 102 #[.pointer (some ⟨g,0,none⟩),.int .i64 a1] w fun e w'=>e=.returned (.pointer (some ⟨g,o,none⟩))∧Drawn0 w w':=by
 have h:=(ifN h).1
 rcases h with ⟨hn,rfl⟩|⟨hn,rfl⟩
 ·have hnq1:(a1==0)=true:=beq_iff_eq.mpr hn;clear hn;go_enter Tryz.func102,Tryz.ntmps102;go_wp2
  go_ret
  exact⟨rfl,TD⟩
 ·have hnq1:(a1==0)=false:=beq_eq_false_iff_ne.mpr hn;clear hn;go_enter Tryz.func102,Tryz.ntmps102;go_wp2
  go_ret
  exact⟨rfl,TD⟩
/-- A disk's three rows, apart. -/
def Dsk (w:World)(base:Nat)(vA vB vP:Value)(lA lB:List Int)(lP:List S91):Prop:=
 Kd.R (Kd.int .u8) 5 w base (fun k=>some k≠vB.ownBlock) vA lA∧Kd.R (Kd.int .u8) 5 w base (fun k=>some k≠vA.ownBlock) vB lB∧Kd.S k91 91 w base (fun k=>some k≠vA.ownBlock∧some k≠vB.ownBlock) vP lP
section
variable {w w1 : World} {base : Nat} {vA vB vP v1 : Value} {lA lB l1 : List Int} {lP : List S91}
theorem Dsk.below (h:Dsk w base vA vB vP lA lB lP)(hb:Below w.heap.size w w1):Dsk w1 base vA vB vP lA lB lP:=⟨Kd.R_below h.1 hb,Kd.R_below h.2.1 hb,Kd.S_below h.2.2 hb⟩
theorem Dsk.swap (h:Dsk w base vA vB vP lA lB lP):Dsk w base vB vA vP lB lA lP:=⟨h.2.1,h.1,Kd.S_mono h.2.2 (fun _ q=>⟨q.2,q.1⟩)⟩
/-- Behind an append to the first row. -/
theorem Dsk.app (h:Dsk w base vA vB vP lA lB lP)(hg:w.grownBy w1 vA.ownBlock)(hat:v1.ownBlock=vA.ownBlock∨∃b,v1.ownBlock=some b∧w.heap.size≤b)(ho:Kd.R (Kd.int .u8) 5 w1 base (fun k=>some k≠vB.ownBlock) v1 l1):Dsk w1 base v1 vB vP l1 lB lP:=
 ⟨ho,Kd.R_mono (Kd.R_after (ok:=fun _=>True) (Kd.R_mono h.2.1 (fun _ q=>⟨trivial,q⟩)) hg hat) (fun _ q=>q.2),Kd.S_mono (Kd.S_after (ok:=fun k=>some k≠vB.ownBlock) (Kd.S_mono h.2.2 (fun _ q=>⟨q.2,q.1⟩)) hg hat) (fun _ q=>⟨q.2,q.1⟩)⟩
theorem Dsk.app' (h:Dsk w base vA vB vP lA lB lP)(hg:w.grownBy w1 vB.ownBlock)(hat:v1.ownBlock=vB.ownBlock∨∃b,v1.ownBlock=some b∧w.heap.size≤b)(ho:Kd.R (Kd.int .u8) 5 w1 base (fun k=>some k≠vA.ownBlock) v1 l1):Dsk w1 base vA v1 vP lA l1 lP:=(h.swap.app hg hat ho).swap
/-- The first row has been written in place. -/
theorem Dsk.wr (h:Dsk w base vA vB vP lA lB lP)(hk:∀k,some k≠vA.ownBlock→w1.heap[k]?=w.heap[k]?)(ho:Kd.R (Kd.int .u8) 5 w1 base (fun k=>some k≠vB.ownBlock) vA l1):Dsk w1 base vA vB vP l1 lB lP:=
 ⟨ho,Kd.R_move h.2.1 hk,Kd.S_move h.2.2 (fun k q=>hk k q.1)⟩
theorem Dsk.wr' (h:Dsk w base vA vB vP lA lB lP)(hk:∀k,some k≠vB.ownBlock→w1.heap[k]?=w.heap[k]?)(ho:Kd.R (Kd.int .u8) 5 w1 base (fun k=>some k≠vA.ownBlock) vB l1):Dsk w1 base vA vB vP lA l1 lP:=(h.swap.wr hk ho).swap
/-- What isn't one of its rows has been written. -/
theorem Dsk.off {g:Nat}{cs:Array Value}(h:Dsk w base vA vB vP lA lB lP)(hb:w.heap[g]?=some (.cells cs 39 (0,0)))(hw:Wr g w w1):Dsk w1 base vA vB vP lA lB lP:=
 ⟨Kd.R_mono (Kd.R_move (Kd.R_types h.1 hb (by decide)) (fun k q=>hw.2.2 k q.2)) (fun _ q=>q.1),Kd.R_mono (Kd.R_move (Kd.R_types h.2.1 hb (by decide)) (fun k q=>hw.2.2 k q.2)) (fun _ q=>q.1),Kd.S_mono (Kd.S_move (Kd.S_types h.2.2 hb (by decide)) (fun k q=>hw.2.2 k q.2)) (fun _ q=>q.1)⟩
theorem own_then {v v2 v0:Value}{w0' w2:World}{n:Nat}(h:v.ownBlock=v0.ownBlock∨∃b,v.ownBlock=some b∧n≤b)(hn:n≤w2.heap.size)(hat:v2.ownBlock=v.ownBlock∨∃b,v2.ownBlock=some b∧w0'.heap.size≤b)(hg:w0'.grownBy w2 v.ownBlock)(hn':n≤w0'.heap.size):v2.ownBlock=v0.ownBlock∨∃b,v2.ownBlock=some b∧n≤b:=by
 rcases hat with q|⟨b,q,l⟩
 ·rw[q];exact h
 ·exact .inr ⟨b,q,by omega⟩
end
/-- The same, all of whose blocks are I. -/
def DskI (w:World)(base:Nat)(I:Nat→Prop)(vA vB vP:Value)(lA lB:List Int)(lP:List S91):Prop:=
 Kd.R (Kd.int .u8) 5 w base (fun k=>I k∧some k≠vB.ownBlock) vA lA∧Kd.R (Kd.int .u8) 5 w base (fun k=>I k∧some k≠vA.ownBlock) vB lB∧Kd.S k91 91 w base (fun k=>I k∧some k≠vA.ownBlock∧some k≠vB.ownBlock) vP lP
section
variable {w w1 : World} {base : Nat} {I : Nat → Prop} {vA vB vP v1 : Value} {lA lB l1 : List Int} {lP : List S91} {L : List Itm}
theorem DskI.move (h:DskI w base I vA vB vP lA lB lP)(hk:∀k,I k→w1.heap[k]?=w.heap[k]?):DskI w1 base I vA vB vP lA lB lP:=
 ⟨Kd.R_move h.1 (fun k q=>hk k q.1),Kd.R_move h.2.1 (fun k q=>hk k q.1),Kd.S_move h.2.2 (fun k q=>hk k q.1)⟩
def iDisk (base a b:Nat)(vA vB vP:Value)(lA lB:List Int)(lP:List S91):Itm where
 a:=a
 b:=b
 P:=fun w=>DskI w base (fun k=>a≤k∧k<b) vA vB vP lA lB lP
 st:=fun hk h=>DskI.move h (fun k q=>hk k q.1 q.2)
theorem Sep.disk (h:Sep base w L)(hb:Below w.heap.size w w1)(hB:base≤w.heap.size)(h1:Kd.R (Kd.int .u8) 5 w1 w.heap.size (fun k=>some k≠vB.ownBlock) vA lA)(h2:Kd.R (Kd.int .u8) 5 w1 w.heap.size (fun k=>some k≠vA.ownBlock) vB lB)
  (h3:Kd.S k91 91 w1 w.heap.size (fun k=>some k≠vA.ownBlock∧some k≠vB.ownBlock) vP lP):Sep base w1 (iDisk base w.heap.size w1.heap.size vA vB vP lA lB lP :: L):=
 h.add hb hB (iDisk base w.heap.size w1.heap.size vA vB vP lA lB lP) (Nat.le_refl _) hb.size (Nat.le_refl _)
  ⟨Kd.R_lower (Kd.R_mono (Kd.R_bound h1) (fun k q=>⟨⟨q.2.1,q.2.2.1⟩,q.1⟩)) hB,Kd.R_lower (Kd.R_mono (Kd.R_bound h2) (fun k q=>⟨⟨q.2.1,q.2.2.1⟩,q.1⟩)) hB,Kd.S_lower (Kd.S_mono (Kd.S_bound h3) (fun k q=>⟨⟨q.2.1,q.2.2.1⟩,q.1⟩)) hB⟩
/-- A flat row over what leaves its block. -/
theorem R_kept1 {α:Type}{d:Kd α}{e:Nat}{ok S:Nat→Prop}{v:Value}{xs:List α}(hE:d.E=[])(h:d.R e w base ok v xs)(hk:Kept w w1 S)(hn:∀k,v.ownBlock=some k→¬S k):d.R e w1 base ok v xs:=
 Kd.R_mono (Kd.R_kept (Kd.R_tight2 hE h) hk (fun k q=>hn k q.1.symm)) (fun _ q=>q.2)
end
section
variable {base x y cA cB cP : Nat} {AA AB AP : Option Addr} {lA lB : List Int} {lP : List S91} {W : World} {vA vB vP : Value}
theorem diskC0 (h:(iDisk base x y (.slice AA lA.length cA) vB vP lA lB lP).P W):(Kd.int .u8).C W AA lA.length lA:=(Kd.R_reads' h.1).2.2
theorem diskL0 (h:(iDisk base x y (.slice AA lA.length cA) vB vP lA lB lP).P W):lA.length≤cA:=(Kd.R_reads' h.1).2.1
theorem diskC1 (h:(iDisk base x y vA (.slice AB lB.length cB) vP lA lB lP).P W):(Kd.int .u8).C W AB lB.length lB:=(Kd.R_reads' h.2.1).2.2
theorem diskL1 (h:(iDisk base x y vA (.slice AB lB.length cB) vP lA lB lP).P W):lB.length≤cB:=(Kd.R_reads' h.2.1).2.1
theorem diskC2 (h:(iDisk base x y vA vB (.slice AP lP.length cP) lA lB lP).P W):k91.C W AP lP.length lP:=(Kd.S_reads' h.2.2).2.2
theorem diskL2 (h:(iDisk base x y vA vB (.slice AP lP.length cP) lA lB lP).P W):lP.length≤cP:=(Kd.S_reads' h.2.2).2.1
end
def laws_toByteS.l0 :Nat→List Int→List Int→Int→Option (List Int)
  |0,_,_,_=>none
  |k+1,b,c,a=>if a<(b.length:Int) then (if 0≤a then (if a<(c.length:Int) then (laws_toByteS.l0 k b (c.set (a:Int).toNat (rd b a)) (wrap64 (a+1))) else (none)) else (none)) else (some c)
def laws_toByteS.f (k:Nat)(a:List Int):Option (List Int):=if 0≤(a.length:Int) then (if ((a.length:Int):Int).toNat≤281474976710656 then (laws_toByteS.l0 k a (List.replicate ((a.length:Int):Int).toNat 0) 0) else (none)) else (none)
theorem laws_toByteS.mono_l :∀k,(∀a b c,LeO (laws_toByteS.l0 k a b c) (laws_toByteS.l0 (k+1) a b c))
  |0=>fun _ _ _ r h=>by simp [laws_toByteS.l0] at h
  | k+1=>by
    have ih0:=laws_toByteS.mono_l k
    · intro y0 y1 y2
      unfold laws_toByteS.l0
      exact LM
theorem laws_toByteS.mono :∀a k,LeO (laws_toByteS.f k a) (laws_toByteS.f (k+1) a):=by
  intro a0 k;have ih0:=laws_toByteS.mono_l k;unfold laws_toByteS.f;exact LM
theorem laws_toByteS.calls {k:Nat}{A0:Option Addr}{c0:Nat}{l0:List Int}{r:List Int}{w:World}(hr0:Kd.C (Kd.int .u8) w A0 l0.length l0)(hc0:l0.length≤c0)(h:laws_toByteS.f k l0=some r):
    Calls Tryz.prog 31 #[.slice A0 l0.length c0] w fun e w'=>∃v0_:Value,e=.returned (v0_)∧Kd.R (Kd.int .u8) 5 w' w.heap.size (fun _=>True) v0_ r∧Below w.heap.size w w':=by
  have HR0:=aM hr0
  have HC0:=aM hc0
  clear hr0 hc0
  have HB:=aM (Below.refl w.heap.size w)
  have H:=h
  clear h
  unfold laws_toByteS.f at H
  replace H:=ifN H
  obtain⟨c2,H⟩:=H
  have c2b0:=eq_true c2
  have c2b1:decide (0≤(l0.length:Int))=true:=decide_eq_true c2
  clear c2
  replace H:=ifN H
  obtain⟨c3,H⟩:=H
  have c3b0:=eq_true c3
  have c3b1:decide (((l0.length:Int):Int).toNat≤281474976710656)=true:=decide_eq_true c3
  clear c3
  obtain⟨y532,hy532⟩:∃y_:List Int,y_=(List.replicate ((l0.length:Int):Int).toNat 0):=⟨_,rfl⟩
  rw[← hy532] at H
  have Ny532:=aM hy532
  clear hy532
  have H':=aM H
  clear H
  go_enter Tryz.func31,Tryz.ntmps31
  go_wp2_with (first|(refine g_D 7 ?_;refine Kd.R_make (Kd.int .u8) _ 5 rfl (N:=7) rfl 22 _ _ rfl (l0.length:Int) rfl rfl Tryz.underlying22 (.int .u8 0) 1 info5 rfl (by decide) (by omega) 0 (ok:=fun _=>True) (okp:=fun _=>True) rfl (fun _ hk=>hk) trivial DT (Nat.le_trans (Nat.mul_le_mul_right _ (DT:(l0.length:Int).toNat≤281474976710656)) (by omega)) (Below.refl _ _) (Nat.le_refl _) ?_;intro v533 w4 ho5 hb hg_ hnew_;clear hg_ hnew_;(first|rw[← Ny532.out] at ho5|(simp only[Int.reduceToNat] at ho5;rw[← Ny532.out] at ho5));have HO534:=aM (Kd.R_lower ho5 (below_size TB));replace HB:=bS HB hb;clear hb ho5))
  go_loopg [4] k (fun kq v4 w'=>∃(x3_1:List Int) (x4_1:Int),v4=.int .i64 x4_1∧Aside0 (laws_toByteS.l0 kq l0 x3_1 x4_1=some r)∧Aside0 (kq≤k)∧Aside0 (Kd.R (Kd.int .u8) 5 w' w.heap.size (fun _=>True) v533 x3_1)∧Aside0 (Below w.heap.size w w'))
  case atStart=>exact⟨(y532),(0),TF,H',⟨Nat.le_refl _⟩,⟨by have X_:=HO534.out;exact TR⟩,⟨TB⟩⟩
  case round=>
    clear H'
    try clear c2
    try clear c2b0
    try clear c2b1
    try clear p2
    try clear c3
    try clear c3b0
    try clear c3b1
    obtain⟨x3_1,x4_1,rfl,HA,HK1,HO_3,HB⟩:=hrel
    cases gk with
    |zero=>exact absurd HA.out (by simp [laws_toByteS.l0])
    | succ k1=>
      have H:=HA.out
      clear HA
      simp only[laws_toByteS.l0] at H
      by_cases c6:x4_1<(l0.length:Int)
      · rw[if_pos c6] at H
        have c6b0:decide (x4_1<(l0.length:Int))=true:=decide_eq_true c6
        clear c6
        replace H:=ifN H
        obtain⟨c7,H⟩:=H
        have c7b0:decide (0≤x4_1)=true:=decide_eq_true c7
        clear c7
        replace H:=ifN H
        obtain⟨c8,H⟩:=H
        have c8b0:decide (x4_1<(x3_1.length:Int))=true:=decide_eq_true c8
        clear c8
        obtain⟨y536,hy536⟩:∃y_:List Int,y_=(x3_1.set (x4_1:Int).toNat (rd l0 x4_1)):=⟨_,rfl⟩
        rw[← hy536] at H
        have Ny536:=aM hy536
        clear hy536
        have H':=aM H
        clear H
        have p535:0≤(x4_1:Int):=DT
        have q535:x4_1<(l0.length:Int):=DT
        obtain⟨ad535,e535,hx535_0⟩:=Kd.at_int HR0.out x4_1 p535 q535
        cases e535
        replace hx535_0:=(HB.out.cell (World.block_lt_of_cell? w _ hx535_0)).trans hx535_0
        replace p535:=eq_true p535
        replace q535:=eq_true q535
        have p9:0≤(x4_1:Int):=DT
        have q9:(x4_1:Int)<((x3_1.length:Int):Int):=DT
        obtain⟨go9,co9,eo9,gb9,gl9,cl9,HG9⟩:=Kd.R_form HO_3.out (by omega)
        (first|cases eo9|(injection eo9 with ea_ en_ ec_;(first|subst ea_|(injection ea_ with ea_;subst ea_));subst ec_;clear en_))
        have GB9:=aM gb9
        have GG9:=aM HG9
        clear gb9 gl9 HG9
        obtain⟨hx9_0,hf9_0⟩:=Kd.R_celln 0 HO_3.out (x4_1:Int) p9 q9
        replace p9:=eq_true p9
        replace q9:=eq_true q9
        have HP10:=Kd.R_putg HO_3.out (x4_1:Int) (rd l0 x4_1)
        go_wp2_with (first|((with_reducible refine gate_store (t:=5) (p:=20) rfl ?_);refine store_event (t:=5) (p:=20) (v:=?vo_w11) (w1:=(wr.setCell ⟨go9,(x4_1:Int).toNat,none⟩ (.int .u8 (rd l0 x4_1)))) ?hg ?ho ?hn ?hr ?_;(case ho=>rfl);(case hg=>rfl);(case hn=>rfl);(case hr=>first|(go_simp;done)|(go_simp;rfl));intro w11 hw;have hg:wr.grownBy w11 (some go9):=(by rw[hw];exact HP10.2);have hp_:Kd.R (Kd.int .u8) 5 w11 w.heap.size (fun _=>True) (.slice (some ⟨go9,0,none⟩) x3_1.length co9) y536:=(by rw[hw,Ny536.out];exact HP10.1);clear HP10;replace HO_3:=aM (hp_);replace HB:=aM ((by rw[hw];exact below_set (HB.out) GB9.out:Below w.heap.size w w11));clear hg hw hp_))
        go_roundg k1
        case measure=>have:=HK1.out;omega
        case rel=>exact⟨(y536),(wrap64 (x4_1+1)),TF,H',⟨by have:=HK1.out;omega⟩,⟨by have X_:=HO_3.out;exact TR⟩,⟨TB⟩⟩
      · rw[if_neg c6] at H
        have c6b0:decide (x4_1<(l0.length:Int))=false:=decide_eq_false c6
        clear c6
        obtain rfl:=o_I H
        go_wp2
        go_ret
        exact⟨_,TE,by have X_:=HO_3.out;exact TR,TB⟩
def laws_toRecord.f (a:Int)(b:Int)(c:Int):Option (Int×Int×Int):=some (a,b,c)
theorem laws_toRecord.calls {a0_0:Int}{a0_1:Int}{a0_2:Int}{r1:Int}{r2:Int}{r3:Int}{w:World}(h:laws_toRecord.f a0_0 a0_1 a0_2=some (r1,r2,r3)):
    Calls Tryz.prog 32 #[.agg #[.int .i64 a0_0,.int .i64 a0_1,.int .i64 a0_2]] w fun e w'=>e=.returned (.agg #[.int .i64 r1,.int .i64 r2,.int .i64 r3])∧Below w.heap.size w w':=by
  have hu24:=Tryz.underlying24
  have hu36:=Tryz.underlying36
  have HB:=aM (Below.refl w.heap.size w)
  have H:=h
  clear h
  unfold laws_toRecord.f at H
  simp only[Option.some.injEq,Prod.mk.injEq] at H
  obtain⟨rfl,rfl,rfl⟩:=H
  go_enter Tryz.func32,Tryz.ntmps32
  go_wp2_with (first|(refine g_D 1 ?_;refine gBx 1 #[.int .i64 a0_0,.int .i64 a0_1,.int .i64 a0_2] 24 ?_;intro gb537 hg w2 hbox hb;have BK537:=aM (hbox);have GW537:=gW HB hg;have GE537:=gW HB hg;replace HB:=bS HB hb;clear hb hbox hg)|(refine g_D 2 ?_;refine gBx 2 #[.int .i64 0,.int .i64 0,.int .i64 0] 36 ?_;intro gb538 hg w3 hbox hb;have BK538:=aM (hbox);have GW538:=gW HB hg;have GE538:=gW HB hg;obtain⟨NB537_538,NB538_537⟩:=nB BK537 hg;replace BK537:=mB BK537 hb;replace HB:=bS HB hb;clear hb hbox hg)|(refine g_D 3 ?_;refine gBx 3 #[.int .i64 0,.int .i64 0,.int .i64 0] 36 ?_;intro gb539 hg w4 hbox hb;have BK539:=aM (hbox);have GW539:=gW HB hg;have GE539:=gW HB hg;obtain⟨NB537_539,NB539_537⟩:=nB BK537 hg;obtain⟨NB538_539,NB539_538⟩:=nB BK538 hg;replace BK537:=mB BK537 hb;replace BK538:=mB BK538 hb;replace HB:=bS HB hb;clear hb hbox hg;obtain⟨hnb5,hnc5⟩:=oB NB537_538;obtain⟨hnb6,hnc6⟩:=oB NB537_539;obtain⟨hcz7_0,hcz7_1,hcz7_2⟩:=cz3 BK537.out;obtain⟨hfz7_0,hfz7_1,hfz7_2⟩:=fz3 BK537.out;obtain⟨hnb8,hnc8⟩:=oB NB539_538;obtain⟨hcz9_0,hcz9_1,hcz9_2⟩:=cz3 BK539.out;obtain⟨hfz9_0,hfz9_1,hfz9_2⟩:=fz3 BK539.out;obtain⟨hcz10_0,hcz10_1,hcz10_2⟩:=cz3 BK538.out;obtain⟨hfz10_0,hfz10_1,hfz10_2⟩:=fz3 BK538.out))
  refine bodyPost_ret (results_cell_row rfl _ _ gb538 36 #[.int .i64 a0_0,.int .i64 a0_1,.int .i64 a0_2] (0,0) _ rfl (blk_put (blk_put (blk_put (cs:=#[.int .i64 0,.int .i64 0,.int .i64 0]) (TZ BK538) 0 _ rfl) 1 _ rfl) 2 _ rfl) Tryz.underlying36 rfl (by kernel_rfl)) rfl ?_
  exact⟨TE,TB⟩
def laws_toPut.f (k:Nat)(b:Int)(c:Int)(d:List Int)(e:Int)(f:Int)(g:Int):Option (Int×Int×List Int×Int×Int×Int):=(laws_toByteS.f k d).bind fun h=>((laws_toRecord.f e f g).bind fun a=>(some (b,c,h,a.1,a.2.1,a.2.2)))
theorem laws_toPut.mono :∀a b c d e f k,LeO (laws_toPut.f k a b c d e f) (laws_toPut.f (k+1) a b c d e f):=by
  intro a0 a1 a2 a3 a4 a5 k;have m0_:=@laws_toByteS.mono;unfold laws_toPut.f;exact LM
theorem laws_toPut.calls {k:Nat}{a0_0:Int}{a0_1:Int}{A0_2:Option Addr}{c0_2:Nat}{l0_2:List Int}{a0_3:Int}{a0_4:Int}{a0_5:Int}{r1:Int}{r2:Int}{r3:List Int}{r4:Int}{r5:Int}{r6:Int}{w:World}(hr0_2:Kd.C (Kd.int .u8) w A0_2 l0_2.length l0_2)(hc0_2:l0_2.length≤c0_2)(h:laws_toPut.f k a0_0 a0_1 l0_2 a0_3 a0_4 a0_5=some (r1,r2,r3,r4,r5,r6)):
    Calls Tryz.prog 62 #[.agg #[.int .i64 a0_0,.int .i64 a0_1,.slice A0_2 l0_2.length c0_2,.int .i64 a0_3,.int .i64 a0_4,.int .i64 a0_5]] w fun e w'=>∃v2_:Value,e=.returned (.agg #[.int .i64 r1,.int .i64 r2,v2_,.int .i64 r4,.int .i64 r5,.int .i64 r6])∧Kd.R (Kd.int .u8) 5 w' w.heap.size (fun _=>True) v2_ r3∧Below w.heap.size w w':=by
  have hu79:=Tryz.underlying79
  have hu91:=Tryz.underlying91
  have hu24:=Tryz.underlying24
  have hu36:=Tryz.underlying36
  have HR0_2:=aM hr0_2
  have HC0_2:=aM hc0_2
  clear hr0_2 hc0_2
  have HB:=aM (Below.refl w.heap.size w)
  have H:=h
  clear h
  unfold laws_toPut.f at H
  replace H:=bE H
  obtain⟨t543,A2,H⟩:=H
  replace H:=bE H
  obtain⟨⟨t546,t547,t548⟩,A3,H⟩:=H
  dsimp only at H
  simp only[Option.some.injEq,Prod.mk.injEq] at H
  obtain⟨rfl,rfl,rfl,rfl,rfl,rfl⟩:=H
  go_enter Tryz.func62,Tryz.ntmps62
  go_wp2_with (first|(refine g_D 1 ?_;refine gBx 1 #[.int .i64 a0_0,.int .i64 a0_1,.slice A0_2 l0_2.length c0_2,.int .i64 a0_3,.int .i64 a0_4,.int .i64 a0_5] 79 ?_;intro gb540 hg w4 hbox hb;have BK540:=aM (hbox);have GW540:=gW HB hg;have GE540:=gW HB hg;replace HB:=bS HB hb;clear hb hbox hg)|(refine g_D 2 ?_;refine gBx 2 #[.int .i64 0,.int .i64 0,.slice none 0 0,.int .i64 0,.int .i64 0,.int .i64 0] 91 ?_;intro gb541 hg w5 hbox hb;have BK541:=aM (hbox);have GW541:=gW HB hg;have GE541:=gW HB hg;obtain⟨NB540_541,NB541_540⟩:=nB BK540 hg;replace BK540:=mB BK540 hb;replace HB:=bS HB hb;clear hb hbox hg)|(refine g_D 3 ?_;refine gBx 3 #[.int .i64 0,.int .i64 0,.slice none 0 0,.int .i64 0,.int .i64 0,.int .i64 0] 91 ?_;intro gb542 hg w6 hbox hb;have BK542:=aM (hbox);have GW542:=gW HB hg;have GE542:=gW HB hg;obtain⟨NB540_542,NB542_540⟩:=nB BK540 hg;obtain⟨NB541_542,NB542_541⟩:=nB BK541 hg;replace BK540:=mB BK540 hb;replace BK541:=mB BK541 hb;replace HB:=bS HB hb;clear hb hbox hg;obtain⟨hnb7,hnc7⟩:=oB NB540_541;obtain⟨hnb8,hnc8⟩:=oB NB540_542;obtain⟨hcz9_0,hcz9_1,hcz9_2,hcz9_3,hcz9_4,hcz9_5⟩:=cz6 BK540.out;obtain⟨hfz9_0,hfz9_1,hfz9_2,hfz9_3,hfz9_4,hfz9_5⟩:=fz6 BK540.out;obtain⟨hnb10,hnc10⟩:=oB NB542_541;obtain⟨hcz11_0,hcz11_1,hcz11_2,hcz11_3,hcz11_4,hcz11_5⟩:=cz6 BK542.out;obtain⟨hfz11_0,hfz11_1,hfz11_2,hfz11_3,hfz11_4,hfz11_5⟩:=fz6 BK542.out)|(refine g_C 31 ?_;refine gL (some 12) Tryz.func31 #[.slice A0_2 l0_2.length c0_2] ?_;(with_reducible refine(laws_toByteS.calls ?side1 ?side2 A2.out).mono ?_);(case side1=>exact Kd.C_below HR0_2.out TB);(case side2=>exact HC0_2.out);rintro e w12 ⟨v544,rfl,ho0,hb⟩;refine⟨_,rfl,?_⟩;have HO545:=aM (Kd.R_lower ho0 (below_size TB));replace BK540:=mB BK540 hb;replace BK541:=mB BK541 hb;replace BK542:=aM (blk_below (g:=gb542) (o:=.cells #[.int .i64 a0_0,.int .i64 a0_1,.slice none 0 0,.int .i64 0,.int .i64 0,.int .i64 0] 91 (0,0)) (blk_put (blk_put (cs:=#[.int .i64 0,.int .i64 0,.slice none 0 0,.int .i64 0,.int .i64 0,.int .i64 0]) (TZ BK542) 0 _ rfl) 1 _ rfl) hb);replace HB:=bS HB hb;clear ho0 hb;obtain⟨Ao13,co13,eo13⟩:=Kd.R_slice HO545.out;subst eo13;obtain⟨hcz14_0,hcz14_1,hcz14_2,hcz14_3,hcz14_4,hcz14_5⟩:=cz6 BK542.out;obtain⟨hfz14_0,hfz14_1,hfz14_2,hfz14_3,hfz14_4,hfz14_5⟩:=fz6 BK542.out;obtain⟨hcz15_0,hcz15_1,hcz15_2,hcz15_3,hcz15_4,hcz15_5⟩:=cz6 BK540.out;obtain⟨hfz15_0,hfz15_1,hfz15_2,hfz15_3,hfz15_4,hfz15_5⟩:=fz6 BK540.out)|(refine g_C 32 ?_;refine gL (some 16) Tryz.func32 #[.agg #[.int .i64 a0_3,.int .i64 a0_4,.int .i64 a0_5]] ?_;(with_reducible refine(laws_toRecord.calls A3.out).mono ?_);rintro e w16 ⟨rfl,hb⟩;refine⟨_,rfl,?_⟩;replace HO545:=aM (Kd.R_below (TY HO545 BK542) hb);replace BK540:=mB BK540 hb;replace BK541:=mB BK541 hb;replace BK542:=aM (blk_below (g:=gb542) (o:=.cells #[.int .i64 a0_0,.int .i64 a0_1,.slice Ao13 t543.length co13,.int .i64 0,.int .i64 0,.int .i64 0] 91 (0,0)) (blk_put (cs:=#[.int .i64 a0_0,.int .i64 a0_1,.slice none 0 0,.int .i64 0,.int .i64 0,.int .i64 0]) (TZ BK542) 2 _ rfl) hb);replace HB:=bS HB hb;clear hb;obtain⟨hcz17_0,hcz17_1,hcz17_2,hcz17_3,hcz17_4,hcz17_5⟩:=cz6 BK542.out;obtain⟨hfz17_0,hfz17_1,hfz17_2,hfz17_3,hfz17_4,hfz17_5⟩:=fz6 BK542.out;obtain⟨hcz18_0,hcz18_1,hcz18_2,hcz18_3,hcz18_4,hcz18_5⟩:=cz6 BK541.out;obtain⟨hfz18_0,hfz18_1,hfz18_2,hfz18_3,hfz18_4,hfz18_5⟩:=fz6 BK541.out))
  refine bodyPost_ret (results_cell_row rfl _ _ gb541 91 #[.int .i64 a0_0,.int .i64 a0_1,.slice Ao13 t543.length co13,.int .i64 t546,.int .i64 t547,.int .i64 t548] (0,0) _ rfl (blk_put (blk_put (blk_put (blk_put (blk_put (blk_put (cs:=#[.int .i64 0,.int .i64 0,.slice none 0 0,.int .i64 0,.int .i64 0,.int .i64 0]) (TZ BK541) 0 _ rfl) 1 _ rfl) 2 _ rfl) 3 _ rfl) 4 _ rfl) 5 _ rfl) Tryz.underlying91 rfl (by kernel_rfl)) rfl ?_
  exact⟨_,TE,by (with_reducible repeat (first|apply Kd.R_alloc|apply Kd.R_drewN|apply Kd.R_drew));exact Kd.R_mono (RK2 (Kd.R_types (Kd.R_types HO545.out BK542.out (by decide)) BK541.out (by decide))) (fun _ hk=>trivial),TB⟩
def laws_toPutS.l0 :Nat→List (S79)→List (S91)→Int→Option ((List (S91)))
  |0,_,_,_=>none
  |k+1,c,d,b=>if b<(c.length:Int) then (if 0≤b then ((laws_toPut.f k ((rd_T79 c b).f0) ((rd_T79 c b).f1) ((rd_T79 c b).f2) ((rd_T79 c b).f3.f0) ((rd_T79 c b).f3.f1) ((rd_T79 c b).f3.f2)).bind fun a=>(if b<(d.length:Int) then (laws_toPutS.l0 k c (d.set (b:Int).toNat (⟨a.1,a.2.1,a.2.2.1,(⟨a.2.2.2.1,a.2.2.2.2.1,a.2.2.2.2.2⟩:S36)⟩:S91)) (wrap64 (b+1))) else (none))) else (none)) else (some d)
def laws_toPutS.f (k:Nat)(a:List (S79)):Option ((List (S91))):=if 0≤(a.length:Int) then (if ((a.length:Int):Int).toNat≤4398046511104 then (laws_toPutS.l0 k a (List.replicate ((a.length:Int):Int).toNat z91) 0) else (none)) else (none)
theorem laws_toPutS.mono_l :∀k,(∀a b c,LeO (laws_toPutS.l0 k a b c) (laws_toPutS.l0 (k+1) a b c))
  |0=>fun _ _ _ r h=>by simp [laws_toPutS.l0] at h
  | k+1=>by
    have m0_:=@laws_toPut.mono
    have ih0:=laws_toPutS.mono_l k
    · intro y0 y1 y2
      unfold laws_toPutS.l0
      exact LM
theorem laws_toPutS.mono :∀a k,LeO (laws_toPutS.f k a) (laws_toPutS.f (k+1) a):=by
  intro a0 k;have m0_:=@laws_toPut.mono;have ih0:=laws_toPutS.mono_l k;unfold laws_toPutS.f;exact LM
theorem laws_toPutS.calls {k:Nat}{A0:Option Addr}{c0:Nat}{l0:List (S79)}{r:List (S91)}{w:World}(hr0:Kd.C k79 w A0 l0.length l0)(hc0:l0.length≤c0)(h:laws_toPutS.f k l0=some r):
  Calls Tryz.prog 33 #[.slice A0 l0.length c0] w fun e w'=>∃v0_:Value,e=.returned (v0_)∧Kd.S k91 91 w' w.heap.size (fun _=>True) v0_ r∧Below w.heap.size w w':=by
 have hu79:=Tryz.underlying79;have hu91:=Tryz.underlying91;have HR0:=aM hr0;have HC0:=aM hc0;clear hr0 hc0;have HB:=aM (Below.refl w.heap.size w);have H:=h;clear h;unfold laws_toPutS.f at H;replace H:=ifN H;obtain⟨c2,H⟩:=H;have c2b0:=eq_true c2;have c2b1:decide (0≤(l0.length:Int))=true:=decide_eq_true c2;clear c2;replace H:=ifN H;obtain⟨c3,H⟩:=H;have c3b0:=eq_true c3;have c3b1:decide (((l0.length:Int):Int).toNat≤4398046511104)=true:=decide_eq_true c3;clear c3;obtain⟨yq1,ak⟩:∃y_:List (S91),y_=(List.replicate ((l0.length:Int):Int).toNat z91):=⟨_,rfl⟩;rw[← ak] at H;have Nyq1:=aM ak;clear ak;have H':=aM H;clear H;go_enter Tryz.func33,Tryz.ntmps33;go_wp2_with (first|(refine g_D 7 ?_;refine Kd.S_make k91 _ 91 rfl (N:=7) rfl 37 _ _ rfl (l0.length:Int) rfl rfl Tryz.underlying37 (.agg #[(.int .i64 0),(.int .i64 0),(.slice none 0 0),(.int .i64 0),(.int .i64 0),(.int .i64 0)]) 64 info91 rfl (by decide) (by omega) z91 (ok:=fun _=>True) (okp:=fun _=>True) (k91_mkM _ _ _ z91 (Kd.R_nil _ _ _ _ _)) (fun _ hk=>hk) trivial DT (Nat.le_trans (Nat.mul_le_mul_right _ (DT:(l0.length:Int).toNat≤4398046511104)) (by omega)) (Below.refl _ _) (Nat.le_refl _) ?_;intro vq1 w4 ho5 hb hg_ hnew_;clear hg_ hnew_;(first|rw[← Nyq1.out] at ho5|(simp only[Int.reduceToNat] at ho5;rw[← Nyq1.out] at ho5));have HOq1:=aM (Kd.S_lower ho5 (below_size TB));replace HB:=bS HB hb;clear hb ho5))
 go_loopg [4] k (fun kq v4 w'=>∃(ab:List (S91)) (aa:Int),v4=.int .i64 aa∧Aside0 (laws_toPutS.l0 kq l0 ab aa=some r)∧Aside0 (kq≤k)∧Aside0 (Kd.S k91 91 w' w.heap.size (fun _=>True) vq1 ab)∧Aside0 (Below w.heap.size w w'))
 case atStart=>exact⟨(yq1),(0),TF,H',⟨Nat.le_refl _⟩,⟨by have X_:=HOq1.out;exact TS⟩,⟨TB⟩⟩
 case round=>
  clear H';try clear c2
  try clear c2b0
  try clear c2b1
  try clear c3
  try clear c3b0
  try clear c3b1
  obtain⟨ab,aa,rfl,HA,HK1,ac,HB⟩:=hrel;cases gk with
  |zero=>exact absurd HA.out (by simp [laws_toPutS.l0])
  | succ k1=>
   have H:=HA.out;clear HA;simp only[laws_toPutS.l0] at H
   by_cases c6:aa<(l0.length:Int)
   ·rw[if_pos c6] at H;have c6b0:decide (aa<(l0.length:Int))=true:=decide_eq_true c6;clear c6;replace H:=ifN H;obtain⟨c7,H⟩:=H;have c7b0:decide (0≤aa)=true:=decide_eq_true c7;clear c7;replace H:=bE H;obtain⟨⟨tq1,tq2,tq3,tq4,tq5,tq6⟩,Aq1,H⟩:=H;dsimp only at H;replace H:=ifN H;obtain⟨cq1,H⟩:=H;have cq2:decide (aa<(ab.length:Int))=true:=decide_eq_true cq1;clear cq1;obtain⟨yq2,af⟩:∃y_:List (S91),y_=(ab.set (aa:Int).toNat (⟨tq1,tq2,tq3,(⟨tq4,tq5,tq6⟩:S36)⟩:S91)):=⟨_,rfl⟩;rw[← af] at H;have Nyq2:=aM af;clear af;have H':=aM H;clear H;have pq1:0≤(aa:Int):=DT;have qq1:aa<(l0.length:Int):=DT;obtain⟨adq1,Aq2,cq3,eq1,ah,ag,ae,ad,ai,aj,hlq1,hiq1⟩:=at_T79 HR0.out aa pq1 qq1;cases eq1;replace ah:=(HB.out.cell (World.block_lt_of_cell? w _ ah)).trans ah;replace ag:=(HB.out.cell (World.block_lt_of_cell? w _ ag)).trans ag;replace ae:=(HB.out.cell (World.block_lt_of_cell? w _ ae)).trans ae;replace ad:=(HB.out.cell (World.block_lt_of_cell? w _ ad)).trans ad;replace ai:=(HB.out.cell (World.block_lt_of_cell? w _ ai)).trans ai;replace aj:=(HB.out.cell (World.block_lt_of_cell? w _ aj)).trans aj;have HRq1:=aM hiq1;have HCq1:=aM hlq1;clear hiq1 hlq1;replace pq1:=eq_true pq1;replace qq1:=eq_true qq1;go_wp2_with (first|(refine g_C 62 ?_;refine gL (some 20) Tryz.func62 #[.agg #[.int .i64 ((rd_T79 l0 aa).f0),.int .i64 ((rd_T79 l0 aa).f1),.slice Aq2 ((rd_T79 l0 aa).f2).length cq3,.int .i64 ((rd_T79 l0 aa).f3.f0),.int .i64 ((rd_T79 l0 aa).f3.f1),.int .i64 ((rd_T79 l0 aa).f3.f2)]] ?_;(with_reducible refine(laws_toPut.calls ?side1 ?side2 Aq1.out).mono ?_);(case side1=>have X_:=(Kd.C_below HRq1.out HB.out);exact TC);(case side2=>exact HCq1.out);rintro e w11 ⟨vq2,rfl,ho0,hb⟩;refine⟨_,rfl,?_⟩;have HOq2:=aM (Kd.R_lower ho0 (below_size TB));replace ac:=aM (Kd.S_elder' (by have X_:=ac.out;exact TS) (Kd.R_base ho0) hb);replace HB:=bS HB hb;clear ho0 hb;have pq2:0≤(aa:Int):=DT;have qq2:(aa:Int)<((ab.length:Int):Int):=DT;obtain⟨goq1,coq1,eoq1,gbq1,glq1,clq1,HGq1⟩:=Kd.S_form ac.out (by omega);(first|cases eoq1|(injection eoq1 with ea_ en_ ec_;(first|subst ea_|(injection ea_ with ea_;subst ea_));subst ec_;clear en_));have GBq1:=aM gbq1;have GGq1:=aM HGq1;clear gbq1 glq1 HGq1;obtain⟨_,ceq1,hclq1,hMq1,hccq1,hfrq1,_,_⟩:=Kd.S_elem ac.out z91 (aa:Int) pq2 qq2;obtain⟨veq1,rfl,geq1⟩:=k91_openM hMq1;have hxq7:w11.cell? ⟨goq1,(aa:Int).toNat * 6,none⟩=some (.int .i64 ((rd_T91 ab aa).f0)):=hccq1 0 _ rfl;have hxq8:w11.cell? ⟨goq1,(aa:Int).toNat * 6+1,none⟩=some (.int .i64 ((rd_T91 ab aa).f1)):=hccq1 1 _ rfl;have hxq9:w11.cell? ⟨goq1,(aa:Int).toNat * 6+2,none⟩=some (veq1):=hccq1 2 _ rfl;have hxq10:w11.cell? ⟨goq1,(aa:Int).toNat * 6+3,none⟩=some (.int .i64 ((rd_T91 ab aa).f3.f0)):=hccq1 3 _ rfl;have hxq11:w11.cell? ⟨goq1,(aa:Int).toNat * 6+4,none⟩=some (.int .i64 ((rd_T91 ab aa).f3.f1)):=hccq1 4 _ rfl;have hxq12:w11.cell? ⟨goq1,(aa:Int).toNat * 6+5,none⟩=some (.int .i64 ((rd_T91 ab aa).f3.f2)):=hccq1 5 _ rfl;have hfq1:w11.frozen? ⟨goq1,(aa:Int).toNat * 6,none⟩=false:=hfrq1 0;have hfq2:w11.frozen? ⟨goq1,(aa:Int).toNat * 6+1,none⟩=false:=hfrq1 1;have hfq3:w11.frozen? ⟨goq1,(aa:Int).toNat * 6+2,none⟩=false:=hfrq1 2;have hfq4:w11.frozen? ⟨goq1,(aa:Int).toNat * 6+3,none⟩=false:=hfrq1 3;have hfq5:w11.frozen? ⟨goq1,(aa:Int).toNat * 6+4,none⟩=false:=hfrq1 4;have hfq6:w11.frozen? ⟨goq1,(aa:Int).toNat * 6+5,none⟩=false:=hfrq1 5;clear hclq1 hccq1 hfrq1 hMq1;replace pq2:=eq_true pq2;replace qq2:=eq_true qq2;have n_:=aM (Kd.S_mono (ok':=(fun k_=>some k_≠(vq2:Value).ownBlock)) ac.out (fun k_ hk=>hk.2));clear ac;have ac:=n_;clear n_;have HXq1:=aM (show Kd.S k91 91 w11 w.heap.size (fun k_=>((fun _=>True)) k_∧¬((fun k_=>some k_=(vq2:Value).ownBlock)) k_) (.slice (some ⟨goq1,0,none⟩) ab.length coq1) ab from(by (with_reducible repeat (first|apply Kd.S_alloc|apply Kd.S_drewN|apply Kd.S_drew));exact Kd.S_mono ac.out (fun k_ hk=>⟨trivial,fun e_=>hk e_⟩)));obtain⟨okiq1,ceq2,hclq2,hMq2,hccq2,hfrq2,hokiq1,hHq1⟩:=Kd.S_elem HXq1.out z91 (aa:Int) DT (by have h_:(aa:Int)<((ab.length:Int):Int):=DT;first|exact h_|(have e_:=(Kd.S_reads' ac.out).1;omega)|simpa using h_);obtain⟨veq2,rfl,geq2⟩:=k91_openM hMq2;have HPq1:=Kd.S_seg hHq1 DT (by have h_:(aa:Int)<((ab.length:Int):Int):=DT;first|exact h_|(have e_:=(Kd.S_reads' ac.out).1;omega)|simpa using h_) (seg:=[.int .i64 tq1,.int .i64 tq2,vq2,.int .i64 tq4,.int .i64 tq5,.int .i64 tq6]) (j:=0) (show 6≤6 from by decide) (x':=(⟨tq1,tq2,tq3,(⟨tq4,tq5,tq6⟩:S36)⟩:S91)) (k91_mkM _ _ _ (⟨tq1,tq2,tq3,(⟨tq4,tq5,tq6⟩:S36)⟩:S91) (Kd.R_mono (Kd.R_tight rfl (Kd.R_mono (ok':=fun k_=>((fun _=>True)) k_∧k_≠goq1) (Kd.R_apart' (HOq2.out) (Kd.S_typed ac.out) (by decide)) (fun k_ hk=>⟨trivial,fun e_=>(hk.2) (by rw[e_];rfl)⟩))) (fun _ h_=>Or.inr (h_)))) (fun _ hk=>hk) (fun k_ hk_=>((Kd.R_mono (ok':=fun k_=>((fun _=>True)) k_∧k_≠goq1) (Kd.R_apart' (HOq2.out) (Kd.S_typed ac.out) (by decide)) (fun k_ hk=>⟨trivial,fun e_=>(hk.2) (by rw[e_];rfl)⟩))).1 k_ hk_.symm);have hxq13:=hccq2 0 _ rfl;(try simp only[show(k91).sz=6 from rfl,Nat.mul_one,Nat.add_zero] at hxq13);have hfq7:=hfrq2 0;(try simp only[show(k91).sz=6 from rfl,Nat.mul_one,Nat.add_zero] at hfq7);have hxq14:=hccq2 1 _ rfl;(try simp only[show(k91).sz=6 from rfl,Nat.mul_one,Nat.add_zero] at hxq14);have hfq8:=hfrq2 1;(try simp only[show(k91).sz=6 from rfl,Nat.mul_one,Nat.add_zero] at hfq8);have hxq15:=hccq2 2 _ rfl;(try simp only[show(k91).sz=6 from rfl,Nat.mul_one,Nat.add_zero] at hxq15);have hfq9:=hfrq2 2;(try simp only[show(k91).sz=6 from rfl,Nat.mul_one,Nat.add_zero] at hfq9);have hxq16:=hccq2 3 _ rfl;(try simp only[show(k91).sz=6 from rfl,Nat.mul_one,Nat.add_zero] at hxq16);have hfq10:=hfrq2 3;(try simp only[show(k91).sz=6 from rfl,Nat.mul_one,Nat.add_zero] at hfq10);have hxq17:=hccq2 4 _ rfl;(try simp only[show(k91).sz=6 from rfl,Nat.mul_one,Nat.add_zero] at hxq17);have hfq11:=hfrq2 4;(try simp only[show(k91).sz=6 from rfl,Nat.mul_one,Nat.add_zero] at hfq11);have hxq18:=hccq2 5 _ rfl;(try simp only[show(k91).sz=6 from rfl,Nat.mul_one,Nat.add_zero] at hxq18);have hfq12:=hfrq2 5;(try simp only[show(k91).sz=6 from rfl,Nat.mul_one,Nat.add_zero] at hfq12);clear hclq2 hccq2 hfrq2 hMq2 hokiq1 hHq1)|((with_reducible refine gate_store (t:=91) (p:=21) rfl ?_);refine store_event (t:=91) (p:=21) (v:=?vo_w13) (w1:=((((((w11.setCell ⟨goq1,(aa:Int).toNat * 6,none⟩ (.int .i64 tq1)).setCell ⟨goq1,(aa:Int).toNat * 6+1,none⟩ (.int .i64 tq2)).setCell ⟨goq1,(aa:Int).toNat * 6+2,none⟩ (vq2)).setCell ⟨goq1,(aa:Int).toNat * 6+3,none⟩ (.int .i64 tq4)).setCell ⟨goq1,(aa:Int).toNat * 6+4,none⟩ (.int .i64 tq5)).setCell ⟨goq1,(aa:Int).toNat * 6+5,none⟩ (.int .i64 tq6))) ?hg ?ho ?hn ?hr ?_;(case ho=>rfl);(case hg=>rfl);(case hn=>rfl);(case hr=>first|(go_simp;done)|(obtain⟨_,_,hv_⟩:=Kd.R_slice HOq2.out;subst hv_;first|(go_simp;done)|(go_simp;rfl))|(go_simp;rfl));intro wq1 hw;have hg:w11.grownBy wq1 (some goq1):=(by rw[hw];exact HPq1.2);have hp_:Kd.S k91 91 wq1 w.heap.size (fun _=>True) (.slice (some ⟨goq1,0,none⟩) ab.length coq1) yq2:=(by rw[hw,Nyq2.out];exact HPq1.1);clear HPq1;replace ac:=aM (hp_);replace HB:=aM ((by rw[hw];exact below_set (below_set (below_set (below_set (below_set (below_set (HB.out) GBq1.out) GBq1.out) GBq1.out) GBq1.out) GBq1.out) GBq1.out:Below w.heap.size w wq1));clear HOq2;clear hg hw hp_))
    go_roundg k1
    case measure=>have:=HK1.out;omega
    case rel=>exact⟨(yq2),(wrap64 (aa+1)),TF,H',⟨by have:=HK1.out;omega⟩,⟨by have X_:=ac.out;exact TS⟩,⟨TB⟩⟩
   ·rw[if_neg c6] at H;have c6b0:decide (aa<(l0.length:Int))=false:=decide_eq_false c6;clear c6;obtain rfl:=o_I H;go_wp2
    go_ret
    exact⟨_,TE,by have X_:=ac.out;exact TS,TB⟩
end Go.Proofs.YtjgmkkogmfogbaaGreat.Q
