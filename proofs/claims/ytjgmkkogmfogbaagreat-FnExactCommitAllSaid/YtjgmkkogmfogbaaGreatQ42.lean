/- Functions of the program as plain Lean functions, and that a call of each comes to what its function tells. -/
import Derived.Test.YtjgmkkogmfogbaaGreatQ5
import Derived.Test.YtjgmkkogmfogbaaGreatQ21
set_option maxHeartbeats 40000000
set_option maxRecDepth 100000
namespace Go.Proofs.YtjgmkkogmfogbaaGreat.Q
open Go.RowKit Go.Proofs.YtjgmkkogmfogbaaGreatW.PrintWords Go.Proofs.YtjgmkkogmfogbaaGreatW.PrintLast Go.Proofs.YtjgmkkogmfogbaaGreatW.PrintMore
attribute [local go_sem] min2_int min_two
set_option linter.unusedVariables false
set_option linter.unusedSimpArgs false
def laws_toDisk.f (k:Nat)(b:List Int)(c:List Int)(d:Int)(e:Int)(f:Int)(g:List (S79)):Option (List Int×List Int×Int×Int×Int×(List (S91))):=(laws_toByteS.f k b).bind fun h=>((laws_toByteS.f k c).bind fun i=>((laws_toRecord.f d e f).bind fun a=>((laws_toPutS.f k g).bind fun j=>(some (h,i,a.1,a.2.1,a.2.2,j)))))
theorem laws_toDisk.mono :∀a b c d e f k,LeO (laws_toDisk.f k a b c d e f) (laws_toDisk.f (k+1) a b c d e f):=by
  intro a0 a1 a2 a3 a4 a5 k;have m0_:=@laws_toByteS.mono;have m1_:=@laws_toPutS.mono;unfold laws_toDisk.f;exact LM
theorem laws_toDisk.calls {k:Nat}{A0_0:Option Addr}{c0_0:Nat}{l0_0:List Int}{A0_1:Option Addr}{c0_1:Nat}{l0_1:List Int}{a0_2:Int}{a0_3:Int}{a0_4:Int}{A0_5:Option Addr}{c0_5:Nat}{l0_5:List (S79)}{r1:List Int}{r2:List Int}{r3:Int}{r4:Int}{r5:Int}{r6:List (S91)}{w:World}(hr0_0:Kd.C (Kd.int .u8) w A0_0 l0_0.length l0_0)(hc0_0:l0_0.length≤c0_0)(hr0_1:Kd.C (Kd.int .u8) w A0_1 l0_1.length l0_1)(hc0_1:l0_1.length≤c0_1)(hr0_5:Kd.C k79 w A0_5 l0_5.length l0_5)(hc0_5:l0_5.length≤c0_5)(h:laws_toDisk.f k l0_0 l0_1 a0_2 a0_3 a0_4 l0_5=some (r1,r2,r3,r4,r5,r6)):
    Calls Tryz.prog 9 #[.agg #[.slice A0_0 l0_0.length c0_0,.slice A0_1 l0_1.length c0_1,.int .i64 a0_2,.int .i64 a0_3,.int .i64 a0_4,.slice A0_5 l0_5.length c0_5]] w fun e w'=>∃v0_ v1_ v5_:Value,e=.returned (.agg #[v0_,v1_,.int .i64 r3,.int .i64 r4,.int .i64 r5,v5_])∧Kd.R (Kd.int .u8) 5 w' w.heap.size (fun k_=>some k_≠(v1_:Value).ownBlock) v0_ r1∧Kd.R (Kd.int .u8) 5 w' w.heap.size (fun k_=>some k_≠(v0_:Value).ownBlock) v1_ r2∧Kd.S k91 91 w' w.heap.size (fun k_=>some k_≠(v0_:Value).ownBlock∧some k_≠(v1_:Value).ownBlock) v5_ r6∧Below w.heap.size w w':=by
  have hu27:=Tryz.underlying27
  have hu39:=Tryz.underlying39
  have hu24:=Tryz.underlying24
  have hu36:=Tryz.underlying36
  have HR0_0:=aM hr0_0
  have HC0_0:=aM hc0_0
  clear hr0_0 hc0_0
  have HR0_1:=aM hr0_1
  have HC0_1:=aM hc0_1
  clear hr0_1 hc0_1
  have HR0_5:=aM hr0_5
  have HC0_5:=aM hc0_5
  clear hr0_5 hc0_5
  have HB:=aM (Below.refl w.heap.size w)
  have H:=h
  clear h
  unfold laws_toDisk.f at H
  replace H:=bE H
  obtain⟨t565,A2,H⟩:=H
  replace H:=bE H
  obtain⟨t568,A3,H⟩:=H
  replace H:=bE H
  obtain⟨⟨t571,t572,t573⟩,A4,H⟩:=H
  dsimp only at H
  replace H:=bE H
  obtain⟨t574,A5,H⟩:=H
  simp only[Option.some.injEq,Prod.mk.injEq] at H
  obtain⟨rfl,rfl,rfl,rfl,rfl,rfl⟩:=H
  go_enter Tryz.func9,Tryz.ntmps9
  go_wp2_with (first|(refine g_D 1 ?_;refine gBx 1 #[.slice A0_0 l0_0.length c0_0,.slice A0_1 l0_1.length c0_1,.int .i64 a0_2,.int .i64 a0_3,.int .i64 a0_4,.slice A0_5 l0_5.length c0_5] 27 ?_;intro gb562 hg w6 hbox hb;have BK562:=aM (hbox);have GW562:=gW HB hg;have GE562:=gW HB hg;replace HB:=bS HB hb;clear hb hbox hg)|(refine g_D 2 ?_;refine gBx 2 #[.slice none 0 0,.slice none 0 0,.int .i64 0,.int .i64 0,.int .i64 0,.slice none 0 0] 39 ?_;intro gb563 hg w7 hbox hb;have BK563:=aM (hbox);have GW563:=gW HB hg;have GE563:=gW HB hg;obtain⟨NB562_563,NB563_562⟩:=nB BK562 hg;replace BK562:=mB BK562 hb;replace HB:=bS HB hb;clear hb hbox hg)|(refine g_D 3 ?_;refine gBx 3 #[.slice none 0 0,.slice none 0 0,.int .i64 0,.int .i64 0,.int .i64 0,.slice none 0 0] 39 ?_;intro gb564 hg w8 hbox hb;have BK564:=aM (hbox);have GW564:=gW HB hg;have GE564:=gW HB hg;obtain⟨NB562_564,NB564_562⟩:=nB BK562 hg;obtain⟨NB563_564,NB564_563⟩:=nB BK563 hg;replace BK562:=mB BK562 hb;replace BK563:=mB BK563 hb;replace HB:=bS HB hb;clear hb hbox hg;obtain⟨hnb9,hnc9⟩:=oB NB562_563;obtain⟨hnb10,hnc10⟩:=oB NB562_564;obtain⟨hcz11_0,hcz11_1,hcz11_2,hcz11_3,hcz11_4,hcz11_5⟩:=cz6 BK562.out;obtain⟨hfz11_0,hfz11_1,hfz11_2,hfz11_3,hfz11_4,hfz11_5⟩:=fz6 BK562.out)|(refine g_C 31 ?_;refine gL (some 6) Tryz.func31 #[.slice A0_0 l0_0.length c0_0] ?_;(with_reducible refine(laws_toByteS.calls ?side1 ?side2 A2.out).mono ?_);(case side1=>have X_:=(Kd.C_below HR0_0.out HB.out);exact TC);(case side2=>exact HC0_0.out);rintro e w12 ⟨v566,rfl,ho0,hb⟩;refine⟨_,rfl,?_⟩;have HO567:=aM (Kd.R_lower ho0 (below_size TB));replace BK562:=mB BK562 hb;replace BK563:=mB BK563 hb;replace BK564:=mB BK564 hb;replace HB:=bS HB hb;clear ho0 hb;obtain⟨Ao13,co13,eo13⟩:=Kd.R_slice HO567.out;subst eo13;obtain⟨hnb14,hnc14⟩:=oB NB564_563;obtain⟨hcz15_0,hcz15_1,hcz15_2,hcz15_3,hcz15_4,hcz15_5⟩:=cz6 BK564.out;obtain⟨hfz15_0,hfz15_1,hfz15_2,hfz15_3,hfz15_4,hfz15_5⟩:=fz6 BK564.out;obtain⟨hcz16_0,hcz16_1,hcz16_2,hcz16_3,hcz16_4,hcz16_5⟩:=cz6 BK562.out;obtain⟨hfz16_0,hfz16_1,hfz16_2,hfz16_3,hfz16_4,hfz16_5⟩:=fz6 BK562.out)|(refine g_C 31 ?_;refine gL (some 10) Tryz.func31 #[.slice A0_1 l0_1.length c0_1] ?_;(with_reducible refine(laws_toByteS.calls ?side1 ?side2 A3.out).mono ?_);(case side1=>exact Kd.C_below HR0_1.out TB);(case side2=>exact HC0_1.out);rintro e w17 ⟨v569,rfl,ho0,hb⟩;refine⟨_,rfl,?_⟩;have HO570:=aM (Kd.R_lower (Kd.R_new' ho0 (Kd.R_lt (TY HO567 BK564))) (below_size TB));replace HO567:=aM (Kd.R_elder' (TY HO567 BK564) (Kd.R_base ho0) hb);replace BK562:=mB BK562 hb;replace BK563:=mB BK563 hb;replace BK564:=aM (blk_below (g:=gb564) (o:=.cells #[.slice Ao13 t565.length co13,.slice none 0 0,.int .i64 0,.int .i64 0,.int .i64 0,.slice none 0 0] 39 (0,0)) (blk_put (cs:=#[.slice none 0 0,.slice none 0 0,.int .i64 0,.int .i64 0,.int .i64 0,.slice none 0 0]) (TZ BK564) 0 _ rfl) hb);replace HB:=bS HB hb;clear ho0 hb;obtain⟨Ao18,co18,eo18⟩:=Kd.R_slice HO570.out;subst eo18;obtain⟨hcz19_0,hcz19_1,hcz19_2,hcz19_3,hcz19_4,hcz19_5⟩:=cz6 BK564.out;obtain⟨hfz19_0,hfz19_1,hfz19_2,hfz19_3,hfz19_4,hfz19_5⟩:=fz6 BK564.out;obtain⟨hcz20_0,hcz20_1,hcz20_2,hcz20_3,hcz20_4,hcz20_5⟩:=cz6 BK562.out;obtain⟨hfz20_0,hfz20_1,hfz20_2,hfz20_3,hfz20_4,hfz20_5⟩:=fz6 BK562.out)|(refine g_C 32 ?_;refine gL (some 14) Tryz.func32 #[.agg #[.int .i64 a0_2,.int .i64 a0_3,.int .i64 a0_4]] ?_;(with_reducible refine(laws_toRecord.calls A4.out).mono ?_);rintro e w21 ⟨rfl,hb⟩;refine⟨_,rfl,?_⟩;replace HO567:=aM (Kd.R_below (TY HO567 BK564) hb);replace HO570:=aM (Kd.R_below (TY HO570 BK564) hb);replace BK562:=mB BK562 hb;replace BK563:=mB BK563 hb;replace BK564:=aM (blk_below (g:=gb564) (o:=.cells #[.slice Ao13 t565.length co13,.slice Ao18 t568.length co18,.int .i64 0,.int .i64 0,.int .i64 0,.slice none 0 0] 39 (0,0)) (blk_put (cs:=#[.slice Ao13 t565.length co13,.slice none 0 0,.int .i64 0,.int .i64 0,.int .i64 0,.slice none 0 0]) (TZ BK564) 1 _ rfl) hb);replace HB:=bS HB hb;clear hb;obtain⟨hcz22_0,hcz22_1,hcz22_2,hcz22_3,hcz22_4,hcz22_5⟩:=cz6 BK564.out;obtain⟨hfz22_0,hfz22_1,hfz22_2,hfz22_3,hfz22_4,hfz22_5⟩:=fz6 BK564.out;obtain⟨hcz23_0,hcz23_1,hcz23_2,hcz23_3,hcz23_4,hcz23_5⟩:=cz6 BK562.out;obtain⟨hfz23_0,hfz23_1,hfz23_2,hfz23_3,hfz23_4,hfz23_5⟩:=fz6 BK562.out)|(refine g_C 33 ?_;refine gL (some 18) Tryz.func33 #[.slice A0_5 l0_5.length c0_5] ?_;(with_reducible refine(laws_toPutS.calls ?side1 ?side2 A5.out).mono ?_);(case side1=>exact Kd.C_below HR0_5.out TB);(case side2=>exact HC0_5.out);rintro e w24 ⟨v575,rfl,ho0,hb⟩;refine⟨_,rfl,?_⟩;have HO576:=aM (Kd.S_lower (Kd.S_new' (Kd.S_new' ho0 (Kd.R_lt (TY HO567 BK564))) (Kd.R_lt (TY HO570 BK564))) (below_size TB));replace HO567:=aM (Kd.R_below (TY HO567 BK564) hb);replace HO570:=aM (Kd.R_below (TY HO570 BK564) hb);replace BK562:=mB BK562 hb;replace BK563:=mB BK563 hb;replace BK564:=aM (blk_below (g:=gb564) (o:=.cells #[.slice Ao13 t565.length co13,.slice Ao18 t568.length co18,.int .i64 t571,.int .i64 t572,.int .i64 t573,.slice none 0 0] 39 (0,0)) (blk_put (blk_put (blk_put (cs:=#[.slice Ao13 t565.length co13,.slice Ao18 t568.length co18,.int .i64 0,.int .i64 0,.int .i64 0,.slice none 0 0]) (TZ BK564) 2 _ rfl) 3 _ rfl) 4 _ rfl) hb);replace HB:=bS HB hb;clear ho0 hb;obtain⟨Ao25,co25,eo25⟩:=Kd.S_slice HO576.out;subst eo25;obtain⟨hcz26_0,hcz26_1,hcz26_2,hcz26_3,hcz26_4,hcz26_5⟩:=cz6 BK564.out;obtain⟨hfz26_0,hfz26_1,hfz26_2,hfz26_3,hfz26_4,hfz26_5⟩:=fz6 BK564.out;obtain⟨hcz27_0,hcz27_1,hcz27_2,hcz27_3,hcz27_4,hcz27_5⟩:=cz6 BK563.out;obtain⟨hfz27_0,hfz27_1,hfz27_2,hfz27_3,hfz27_4,hfz27_5⟩:=fz6 BK563.out))
  refine bodyPost_ret (results_cell_row rfl _ _ gb563 39 #[.slice Ao13 t565.length co13,.slice Ao18 t568.length co18,.int .i64 t571,.int .i64 t572,.int .i64 t573,.slice Ao25 t574.length co25] (0,0) _ rfl (blk_put (blk_put (blk_put (blk_put (blk_put (blk_put (cs:=#[.slice none 0 0,.slice none 0 0,.int .i64 0,.int .i64 0,.int .i64 0,.slice none 0 0]) (TZ BK563) 0 _ rfl) 1 _ rfl) 2 _ rfl) 3 _ rfl) 4 _ rfl) 5 _ rfl) Tryz.underlying39 rfl (by kernel_rfl)) rfl ?_
  exact⟨_,_,_,TE,by (with_reducible repeat (first|apply Kd.R_alloc|apply Kd.R_drewN|apply Kd.R_drew));exact Kd.R_mono (RK2 (Kd.R_types (Kd.R_types HO567.out BK564.out (by decide)) BK563.out (by decide))) (fun _ hk=>hk.1.1.2),by (with_reducible repeat (first|apply Kd.R_alloc|apply Kd.R_drewN|apply Kd.R_drew));exact Kd.R_mono (RK2 (Kd.R_types (Kd.R_types HO570.out BK564.out (by decide)) BK563.out (by decide))) (fun _ hk=>hk.1.1.2),by (with_reducible repeat (first|apply Kd.S_alloc|apply Kd.S_drewN|apply Kd.S_drew));exact Kd.S_mono (SK2 (Kd.S_types (Kd.S_types HO576.out BK564.out (by decide)) BK563.out (by decide))) (fun _ hk=>⟨hk.1.1.1.2,hk.1.1.2⟩),TB⟩
def laws_toSum.f (a:Int)(b:Int):Option (Int×Int):=some (a,b)
theorem laws_toSum.calls {a0_0:Int}{a0_1:Int}{r1:Int}{r2:Int}{w:World}(h:laws_toSum.f a0_0 a0_1=some (r1,r2)):
    Calls Tryz.prog 63 #[.agg #[.int .i64 a0_0,.int .i64 a0_1]] w fun e w'=>e=.returned (.agg #[.int .i64 r1,.int .i64 r2])∧Below w.heap.size w w':=by
  have hu98:=Tryz.underlying98
  have hu96:=Tryz.underlying96
  have HB:=aM (Below.refl w.heap.size w)
  have H:=h
  clear h
  unfold laws_toSum.f at H
  simp only[Option.some.injEq,Prod.mk.injEq] at H
  obtain⟨rfl,rfl⟩:=H
  go_enter Tryz.func63,Tryz.ntmps63
  go_wp2_with (first|(refine g_D 1 ?_;refine gBx 1 #[.int .i64 a0_0,.int .i64 a0_1] 98 ?_;intro gb577 hg w2 hbox hb;have BK577:=aM (hbox);have GW577:=gW HB hg;have GE577:=gW HB hg;replace HB:=bS HB hb;clear hb hbox hg)|(refine g_D 2 ?_;refine gBx 2 #[.int .i64 0,.int .i64 0] 96 ?_;intro gb578 hg w3 hbox hb;have BK578:=aM (hbox);have GW578:=gW HB hg;have GE578:=gW HB hg;obtain⟨NB577_578,NB578_577⟩:=nB BK577 hg;replace BK577:=mB BK577 hb;replace HB:=bS HB hb;clear hb hbox hg)|(refine g_D 3 ?_;refine gBx 3 #[.int .i64 0,.int .i64 0] 96 ?_;intro gb579 hg w4 hbox hb;have BK579:=aM (hbox);have GW579:=gW HB hg;have GE579:=gW HB hg;obtain⟨NB577_579,NB579_577⟩:=nB BK577 hg;obtain⟨NB578_579,NB579_578⟩:=nB BK578 hg;replace BK577:=mB BK577 hb;replace BK578:=mB BK578 hb;replace HB:=bS HB hb;clear hb hbox hg;obtain⟨hnb5,hnc5⟩:=oB NB577_578;obtain⟨hnb6,hnc6⟩:=oB NB577_579;obtain⟨hcz7_0,hcz7_1⟩:=cz2 BK577.out;obtain⟨hfz7_0,hfz7_1⟩:=fz2 BK577.out;obtain⟨hnb8,hnc8⟩:=oB NB579_578;obtain⟨hcz9_0,hcz9_1⟩:=cz2 BK579.out;obtain⟨hfz9_0,hfz9_1⟩:=fz2 BK579.out;obtain⟨hcz10_0,hcz10_1⟩:=cz2 BK578.out;obtain⟨hfz10_0,hfz10_1⟩:=fz2 BK578.out))
  refine bodyPost_ret (results_cell_row rfl _ _ gb578 96 #[.int .i64 a0_0,.int .i64 a0_1] (0,0) _ rfl (blk_put (blk_put (cs:=#[.int .i64 0,.int .i64 0]) (TZ BK578) 0 _ rfl) 1 _ rfl) Tryz.underlying96 rfl (by kernel_rfl)) rfl ?_
  exact⟨TE,TB⟩
def laws_toSumS.l0 :Nat→List (S98)→List (S96)→Int→Option ((List (S96)))
  |0,_,_,_=>none
  |k+1,c,d,a=>if a<(c.length:Int) then (if 0≤a then ((laws_toSum.f ((rd_T98 c a).f0) ((rd_T98 c a).f1)).bind fun b=>(if a<(d.length:Int) then (laws_toSumS.l0 k c (d.set (a:Int).toNat (⟨b.1,b.2⟩:S96)) (wrap64 (a+1))) else (none))) else (none)) else (some d)
def laws_toSumS.f (k:Nat)(a:List (S98)):Option ((List (S96))):=if 0≤(a.length:Int) then (if ((a.length:Int):Int).toNat≤17592186044416 then (laws_toSumS.l0 k a (List.replicate ((a.length:Int):Int).toNat z96) 0) else (none)) else (none)
theorem laws_toSumS.mono_l :∀k,(∀a b c,LeO (laws_toSumS.l0 k a b c) (laws_toSumS.l0 (k+1) a b c))
  |0=>fun _ _ _ r h=>by simp [laws_toSumS.l0] at h
  | k+1=>by
    have ih0:=laws_toSumS.mono_l k
    · intro y0 y1 y2
      unfold laws_toSumS.l0
      exact LM
theorem laws_toSumS.mono :∀a k,LeO (laws_toSumS.f k a) (laws_toSumS.f (k+1) a):=by
  intro a0 k;have ih0:=laws_toSumS.mono_l k;unfold laws_toSumS.f;exact LM
theorem laws_toSumS.calls {k:Nat}{A0:Option Addr}{c0:Nat}{l0:List (S98)}{r:List (S96)}{w:World}(hr0:Kd.C k98 w A0 l0.length l0)(hc0:l0.length≤c0)(h:laws_toSumS.f k l0=some r):
  Calls Tryz.prog 34 #[.slice A0 l0.length c0] w fun e w'=>∃v0_:Value,e=.returned (v0_)∧Kd.R k96 96 w' w.heap.size (fun _=>True) v0_ r∧Below w.heap.size w w':=by
 have hu98:=Tryz.underlying98;have hu96:=Tryz.underlying96;have HRq1:=aM hr0;have HCq1:=aM hc0;clear hr0 hc0;have HB:=aM (Below.refl w.heap.size w);have H:=h;clear h;unfold laws_toSumS.f at H;replace H:=ifN H;obtain⟨cq1,H⟩:=H;have cq2:=eq_true cq1;have cq3:decide (0≤(l0.length:Int))=true:=decide_eq_true cq1;clear cq1;replace H:=ifN H;obtain⟨cq4,H⟩:=H;have cq5:=eq_true cq4;have cq6:decide (((l0.length:Int):Int).toNat≤17592186044416)=true:=decide_eq_true cq4;clear cq4;obtain⟨yq1,af⟩:∃y_:List (S96),y_=(List.replicate ((l0.length:Int):Int).toNat z96):=⟨_,rfl⟩;rw[← af] at H;have Nyq1:=aM af;clear af;have H':=aM H;clear H;go_enter Tryz.func34,Tryz.ntmps34;go_wp2_with (first|(refine g_D 7 ?_;refine Kd.R_make k96 _ 96 rfl (N:=7) rfl 43 _ _ rfl (l0.length:Int) rfl rfl Tryz.underlying43 (.agg #[(.int .i64 0),(.int .i64 0)]) 16 info96 rfl (by decide) (by omega) z96 (ok:=fun _=>True) (okp:=fun _=>True) (k96_mkM _ _ _ z96) (fun _ hk=>hk) trivial DT (Nat.le_trans (Nat.mul_le_mul_right _ (DT:(l0.length:Int).toNat≤17592186044416)) (by omega)) (Below.refl _ _) (Nat.le_refl _) ?_;intro vq1 w4 ab hb hg_ hnew_;clear hg_ hnew_;(first|rw[← Nyq1.out] at ab|(simp only[Int.reduceToNat] at ab;rw[← Nyq1.out] at ab));have HOq1:=aM (Kd.R_lower ab (below_size TB));replace HB:=bS HB hb;clear hb ab))
 go_loopg [4] k (fun kq vq2 w'=>∃(xq1:List (S96)) (xq2:Int),vq2=.int .i64 xq2∧Aside0 (laws_toSumS.l0 kq l0 xq1 xq2=some r)∧Aside0 (kq≤k)∧Aside0 (Kd.R k96 96 w' w.heap.size (fun _=>True) vq1 xq1)∧Aside0 (Below w.heap.size w w'))
 case atStart=>exact⟨(yq1),(0),TF,H',⟨Nat.le_refl _⟩,⟨by have X_:=HOq1.out;exact TR⟩,⟨TB⟩⟩
 case round=>
  clear H';try clear cq1
  try clear cq2
  try clear cq3
  try clear cq4
  try clear cq5
  try clear cq6
  obtain⟨xq1,xq2,rfl,HA,HKq1,aa,HB⟩:=hrel;cases gk with
  |zero=>exact absurd HA.out (by simp [laws_toSumS.l0])
  | succ k1=>
   have H:=HA.out;clear HA;simp only[laws_toSumS.l0] at H
   by_cases cq7:xq2<(l0.length:Int)
   ·rw[if_pos cq7] at H;have cq8:decide (xq2<(l0.length:Int))=true:=decide_eq_true cq7;clear cq7;replace H:=ifN H;obtain⟨cq9,H⟩:=H;have cq10:decide (0≤xq2)=true:=decide_eq_true cq9;clear cq9;replace H:=bE H;obtain⟨⟨tq1,tq2⟩,Aq1,H⟩:=H;dsimp only at H;replace H:=ifN H;obtain⟨cq11,H⟩:=H;have cq12:decide (xq2<(xq1.length:Int))=true:=decide_eq_true cq11;clear cq11;obtain⟨yq2,ad⟩:∃y_:List (S96),y_=(xq1.set (xq2:Int).toNat (⟨tq1,tq2⟩:S96)):=⟨_,rfl⟩;rw[← ad] at H;have Nyq2:=aM ad;clear ad;have H':=aM H;clear H;have pq2:0≤(xq2:Int):=DT;have qq1:xq2<(l0.length:Int):=DT;obtain⟨adq1,eq1,ac,ae⟩:=at_T98 HRq1.out xq2 pq2 qq1;cases eq1;replace ac:=(HB.out.cell (World.block_lt_of_cell? w _ ac)).trans ac;replace ae:=(HB.out.cell (World.block_lt_of_cell? w _ ae)).trans ae;replace pq2:=eq_true pq2;replace qq1:=eq_true qq1;go_wp2_with (first|(refine g_C 63 ?_;refine gL (some 20) Tryz.func63 #[.agg #[.int .i64 ((rd_T98 l0 xq2).f0),.int .i64 ((rd_T98 l0 xq2).f1)]] ?_;(with_reducible refine(laws_toSum.calls Aq1.out).mono ?_);rintro e wq1 ⟨rfl,hb⟩;refine⟨_,rfl,?_⟩;replace aa:=mR aa hb;replace HB:=bS HB hb;clear hb;have pq3:0≤(xq2:Int):=DT;have qq2:(xq2:Int)<((xq1.length:Int):Int):=DT;obtain⟨goq1,coq1,eoq1,gbq1,glq1,clq1,HGq1⟩:=Kd.R_form aa.out (by omega);(first|cases eoq1|(injection eoq1 with ea_ en_ ec_;(first|subst ea_|(injection ea_ with ea_;subst ea_));subst ec_;clear en_));have GBq1:=aM gbq1;have GGq1:=aM HGq1;clear gbq1 glq1 HGq1;obtain⟨ceq1,hclq1,hMq1,hccq1,hfrq1⟩:=Kd.R_elem aa.out z96 (xq2:Int) pq3 qq2;obtain rfl:=k96_openM hMq1;have hxq3:wq1.cell? ⟨goq1,(xq2:Int).toNat * 2,none⟩=some (.int .i64 ((rd_T96 xq1 xq2).f0)):=hccq1 0 _ rfl;have hxq4:wq1.cell? ⟨goq1,(xq2:Int).toNat * 2+1,none⟩=some (.int .i64 ((rd_T96 xq1 xq2).f1)):=hccq1 1 _ rfl;have hfq1:wq1.frozen? ⟨goq1,(xq2:Int).toNat * 2,none⟩=false:=hfrq1 0;have hfq2:wq1.frozen? ⟨goq1,(xq2:Int).toNat * 2+1,none⟩=false:=hfrq1 1;clear hclq1 hccq1 hfrq1 hMq1;replace pq3:=eq_true pq3;replace qq2:=eq_true qq2;have HXq1:=aM (show Kd.R k96 96 wq1 w.heap.size (fun _=>True) (.slice (some ⟨goq1,0,none⟩) xq1.length coq1) xq1 from(TRf aa));obtain⟨ceq2,hclq2,hMq2,hccq2,hfrq2⟩:=Kd.R_elem HXq1.out z96 (xq2:Int) DT (by have h_:(xq2:Int)<((xq1.length:Int):Int):=DT;first|exact h_|(have e_:=(Kd.R_reads' aa.out).1;omega)|simpa using h_);obtain rfl:=k96_openM hMq2;have HPq1:=Kd.R_seg HXq1.out (xq2:Int) DT (by have h_:(xq2:Int)<((xq1.length:Int):Int):=DT;first|exact h_|(have e_:=(Kd.R_reads' aa.out).1;omega)|simpa using h_) (seg:=[.int .i64 tq1,.int .i64 tq2]) (j:=0) hclq2 hccq2 (show 2≤2 from by decide) (x':=(⟨tq1,tq2⟩:S96)) (k96_mkM _ _ _ (⟨tq1,tq2⟩:S96)) (fun _ hk=>hk);have hxq5:=hccq2 0 _ rfl;(try simp only[show(k96).sz=2 from rfl,Nat.mul_one,Nat.add_zero] at hxq5);have hfq3:=hfrq2 0;(try simp only[show(k96).sz=2 from rfl,Nat.mul_one,Nat.add_zero] at hfq3);have hxq6:=hccq2 1 _ rfl;(try simp only[show(k96).sz=2 from rfl,Nat.mul_one,Nat.add_zero] at hxq6);have hfq4:=hfrq2 1;(try simp only[show(k96).sz=2 from rfl,Nat.mul_one,Nat.add_zero] at hfq4);clear hclq2 hccq2 hfrq2 hMq2)|((with_reducible refine gate_store (t:=96) (p:=21) rfl ?_);refine store_event (t:=96) (p:=21) (v:=?vo_w13) (w1:=((wq1.setCell ⟨goq1,(xq2:Int).toNat * 2,none⟩ (.int .i64 tq1)).setCell ⟨goq1,(xq2:Int).toNat * 2+1,none⟩ (.int .i64 tq2))) ?hg ?ho ?hn ?hr ?_;(case ho=>rfl);(case hg=>rfl);(case hn=>rfl);(case hr=>first|(go_simp;done)|(go_simp;rfl));intro wq2 hw;have hg:wq1.grownBy wq2 (some goq1):=(by rw[hw];exact HPq1.2);have hp_:Kd.R k96 96 wq2 w.heap.size (fun _=>True) (.slice (some ⟨goq1,0,none⟩) xq1.length coq1) yq2:=(by rw[hw,Nyq2.out];exact HPq1.1);clear HPq1;replace aa:=aM (hp_);replace HB:=aM ((by rw[hw];exact below_set (below_set (HB.out) GBq1.out) GBq1.out:Below w.heap.size w wq2));clear hg hw hp_))
    go_roundg k1
    case measure=>have:=HKq1.out;omega
    case rel=>exact⟨(yq2),(wrap64 (xq2+1)),TF,H',⟨by have:=HKq1.out;omega⟩,⟨by have X_:=aa.out;exact TR⟩,⟨TB⟩⟩
   ·rw[if_neg cq7] at H;have cq8:decide (xq2<(l0.length:Int))=false:=decide_eq_false cq7;clear cq7;obtain rfl:=o_I H;go_wp2
    go_ret
    exact⟨_,TE,by have X_:=aa.out;exact TR,TB⟩
def laws_toManifest.f (k:Nat)(a:Int)(b:Int)(c:Int)(d:List (S98)):Option (Int×Int×Int×(List (S96))):=(laws_toSumS.f k d).bind fun e=>(some (a,b,c,e))
theorem laws_toManifest.mono :∀a b c d k,LeO (laws_toManifest.f k a b c d) (laws_toManifest.f (k+1) a b c d):=by
  intro a0 a1 a2 a3 k;have m0_:=@laws_toSumS.mono;unfold laws_toManifest.f;exact LM
theorem laws_toManifest.calls {k:Nat}{a0_0:Int}{a0_1:Int}{a0_2:Int}{A0_3:Option Addr}{c0_3:Nat}{l0_3:List (S98)}{r1:Int}{r2:Int}{r3:Int}{r4:List (S96)}{w:World}(hr0_3:Kd.C k98 w A0_3 l0_3.length l0_3)(hc0_3:l0_3.length≤c0_3)(h:laws_toManifest.f k a0_0 a0_1 a0_2 l0_3=some (r1,r2,r3,r4)):
    Calls Tryz.prog 10 #[.agg #[.int .i64 a0_0,.int .i64 a0_1,.int .i64 a0_2,.slice A0_3 l0_3.length c0_3]] w fun e w'=>∃v3_:Value,e=.returned (.agg #[.int .i64 r1,.int .i64 r2,.int .i64 r3,v3_])∧Kd.R k96 96 w' w.heap.size (fun _=>True) v3_ r4∧Below w.heap.size w w':=by
  have hu30:=Tryz.underlying30
  have hu45:=Tryz.underlying45
  have HR0_3:=aM hr0_3
  have HC0_3:=aM hc0_3
  clear hr0_3 hc0_3
  have HB:=aM (Below.refl w.heap.size w)
  have H:=h
  clear h
  unfold laws_toManifest.f at H
  replace H:=bE H
  obtain⟨t590,A2,H⟩:=H
  simp only[Option.some.injEq,Prod.mk.injEq] at H
  obtain⟨rfl,rfl,rfl,rfl⟩:=H
  go_enter Tryz.func10,Tryz.ntmps10
  go_wp2_with (first|(refine g_D 1 ?_;refine gBx 1 #[.int .i64 a0_0,.int .i64 a0_1,.int .i64 a0_2,.slice A0_3 l0_3.length c0_3] 30 ?_;intro gb587 hg w3 hbox hb;have BK587:=aM (hbox);have GW587:=gW HB hg;have GE587:=gW HB hg;replace HB:=bS HB hb;clear hb hbox hg)|(refine g_D 2 ?_;refine gBx 2 #[.int .i64 0,.int .i64 0,.int .i64 0,.slice none 0 0] 45 ?_;intro gb588 hg w4 hbox hb;have BK588:=aM (hbox);have GW588:=gW HB hg;have GE588:=gW HB hg;obtain⟨NB587_588,NB588_587⟩:=nB BK587 hg;replace BK587:=mB BK587 hb;replace HB:=bS HB hb;clear hb hbox hg)|(refine g_D 3 ?_;refine gBx 3 #[.int .i64 0,.int .i64 0,.int .i64 0,.slice none 0 0] 45 ?_;intro gb589 hg w5 hbox hb;have BK589:=aM (hbox);have GW589:=gW HB hg;have GE589:=gW HB hg;obtain⟨NB587_589,NB589_587⟩:=nB BK587 hg;obtain⟨NB588_589,NB589_588⟩:=nB BK588 hg;replace BK587:=mB BK587 hb;replace BK588:=mB BK588 hb;replace HB:=bS HB hb;clear hb hbox hg;obtain⟨hnb6,hnc6⟩:=oB NB587_588;obtain⟨hnb7,hnc7⟩:=oB NB587_589;obtain⟨hcz8_0,hcz8_1,hcz8_2,hcz8_3⟩:=cz4 BK587.out;obtain⟨hfz8_0,hfz8_1,hfz8_2,hfz8_3⟩:=fz4 BK587.out;obtain⟨hnb9,hnc9⟩:=oB NB589_588;obtain⟨hcz10_0,hcz10_1,hcz10_2,hcz10_3⟩:=cz4 BK589.out;obtain⟨hfz10_0,hfz10_1,hfz10_2,hfz10_3⟩:=fz4 BK589.out)|(refine g_C 34 ?_;refine gL (some 15) Tryz.func34 #[.slice A0_3 l0_3.length c0_3] ?_;(with_reducible refine(laws_toSumS.calls ?side1 ?side2 A2.out).mono ?_);(case side1=>exact Kd.C_below HR0_3.out TB);(case side2=>exact HC0_3.out);rintro e w11 ⟨v591,rfl,ho0,hb⟩;refine⟨_,rfl,?_⟩;have HO592:=aM (Kd.R_lower ho0 (below_size TB));replace BK587:=mB BK587 hb;replace BK588:=mB BK588 hb;replace BK589:=aM (blk_below (g:=gb589) (o:=.cells #[.int .i64 a0_0,.int .i64 a0_1,.int .i64 a0_2,.slice none 0 0] 45 (0,0)) (blk_put (blk_put (blk_put (cs:=#[.int .i64 0,.int .i64 0,.int .i64 0,.slice none 0 0]) (TZ BK589) 0 _ rfl) 1 _ rfl) 2 _ rfl) hb);replace HB:=bS HB hb;clear ho0 hb;obtain⟨Ao12,co12,eo12⟩:=Kd.R_slice HO592.out;subst eo12;obtain⟨hcz13_0,hcz13_1,hcz13_2,hcz13_3⟩:=cz4 BK589.out;obtain⟨hfz13_0,hfz13_1,hfz13_2,hfz13_3⟩:=fz4 BK589.out;obtain⟨hcz14_0,hcz14_1,hcz14_2,hcz14_3⟩:=cz4 BK588.out;obtain⟨hfz14_0,hfz14_1,hfz14_2,hfz14_3⟩:=fz4 BK588.out))
  refine bodyPost_ret (results_cell_row rfl _ _ gb588 45 #[.int .i64 a0_0,.int .i64 a0_1,.int .i64 a0_2,.slice Ao12 t590.length co12] (0,0) _ rfl (blk_put (blk_put (blk_put (blk_put (cs:=#[.int .i64 0,.int .i64 0,.int .i64 0,.slice none 0 0]) (TZ BK588) 0 _ rfl) 1 _ rfl) 2 _ rfl) 3 _ rfl) Tryz.underlying45 rfl (by kernel_rfl)) rfl ?_
  exact⟨_,TE,by (with_reducible repeat (first|apply Kd.R_alloc|apply Kd.R_drewN|apply Kd.R_drew));exact Kd.R_mono (RK2 (Kd.R_types (Kd.R_types HO592.out BK589.out (by decide)) BK588.out (by decide))) (fun _ hk=>trivial),TB⟩
def laws_toBuild.f (k:Nat)(a:Int)(b:List Int):Option (Int×List Int):=(laws_toByteS.f k b).bind fun c=>(some (a,c))
theorem laws_toBuild.mono :∀a b k,LeO (laws_toBuild.f k a b) (laws_toBuild.f (k+1) a b):=by
  intro a0 a1 k;have m0_:=@laws_toByteS.mono;unfold laws_toBuild.f;exact LM
theorem laws_toBuild.calls {k:Nat}{a0_0:Int}{A0_1:Option Addr}{c0_1:Nat}{l0_1:List Int}{r1:Int}{r2:List Int}{w:World}(hr0_1:Kd.C (Kd.int .u8) w A0_1 l0_1.length l0_1)(hc0_1:l0_1.length≤c0_1)(h:laws_toBuild.f k a0_0 l0_1=some (r1,r2)):
    Calls Tryz.prog 11 #[.agg #[.int .i64 a0_0,.slice A0_1 l0_1.length c0_1]] w fun e w'=>∃v1_:Value,e=.returned (.agg #[.int .i64 r1,v1_])∧Kd.R (Kd.int .u8) 5 w' w.heap.size (fun _=>True) v1_ r2∧Below w.heap.size w w':=by
  have hu32:=Tryz.underlying32
  have hu47:=Tryz.underlying47
  have HR0_1:=aM hr0_1
  have HC0_1:=aM hc0_1
  clear hr0_1 hc0_1
  have HB:=aM (Below.refl w.heap.size w)
  have H:=h
  clear h
  unfold laws_toBuild.f at H
  replace H:=bE H
  obtain⟨t596,A2,H⟩:=H
  simp only[Option.some.injEq,Prod.mk.injEq] at H
  obtain⟨rfl,rfl⟩:=H
  go_enter Tryz.func11,Tryz.ntmps11
  go_wp2_with (first|(refine g_D 1 ?_;refine gBx 1 #[.int .i64 a0_0,.slice A0_1 l0_1.length c0_1] 32 ?_;intro gb593 hg w3 hbox hb;have BK593:=aM (hbox);have GW593:=gW HB hg;have GE593:=gW HB hg;replace HB:=bS HB hb;clear hb hbox hg)|(refine g_D 2 ?_;refine gBx 2 #[.int .i64 0,.slice none 0 0] 47 ?_;intro gb594 hg w4 hbox hb;have BK594:=aM (hbox);have GW594:=gW HB hg;have GE594:=gW HB hg;obtain⟨NB593_594,NB594_593⟩:=nB BK593 hg;replace BK593:=mB BK593 hb;replace HB:=bS HB hb;clear hb hbox hg)|(refine g_D 3 ?_;refine gBx 3 #[.int .i64 0,.slice none 0 0] 47 ?_;intro gb595 hg w5 hbox hb;have BK595:=aM (hbox);have GW595:=gW HB hg;have GE595:=gW HB hg;obtain⟨NB593_595,NB595_593⟩:=nB BK593 hg;obtain⟨NB594_595,NB595_594⟩:=nB BK594 hg;replace BK593:=mB BK593 hb;replace BK594:=mB BK594 hb;replace HB:=bS HB hb;clear hb hbox hg;obtain⟨hnb6,hnc6⟩:=oB NB593_594;obtain⟨hnb7,hnc7⟩:=oB NB593_595;obtain⟨hcz8_0,hcz8_1⟩:=cz2 BK593.out;obtain⟨hfz8_0,hfz8_1⟩:=fz2 BK593.out;obtain⟨hnb9,hnc9⟩:=oB NB595_594;obtain⟨hcz10_0,hcz10_1⟩:=cz2 BK595.out;obtain⟨hfz10_0,hfz10_1⟩:=fz2 BK595.out)|(refine g_C 31 ?_;refine gL (some 9) Tryz.func31 #[.slice A0_1 l0_1.length c0_1] ?_;(with_reducible refine(laws_toByteS.calls ?side1 ?side2 A2.out).mono ?_);(case side1=>exact Kd.C_below HR0_1.out TB);(case side2=>exact HC0_1.out);rintro e w11 ⟨v597,rfl,ho0,hb⟩;refine⟨_,rfl,?_⟩;have HO598:=aM (Kd.R_lower ho0 (below_size TB));replace BK593:=mB BK593 hb;replace BK594:=mB BK594 hb;replace BK595:=aM (blk_below (g:=gb595) (o:=.cells #[.int .i64 a0_0,.slice none 0 0] 47 (0,0)) (blk_put (cs:=#[.int .i64 0,.slice none 0 0]) (TZ BK595) 0 _ rfl) hb);replace HB:=bS HB hb;clear ho0 hb;obtain⟨Ao12,co12,eo12⟩:=Kd.R_slice HO598.out;subst eo12;obtain⟨hcz13_0,hcz13_1⟩:=cz2 BK595.out;obtain⟨hfz13_0,hfz13_1⟩:=fz2 BK595.out;obtain⟨hcz14_0,hcz14_1⟩:=cz2 BK594.out;obtain⟨hfz14_0,hfz14_1⟩:=fz2 BK594.out))
  refine bodyPost_ret (results_cell_row rfl _ _ gb594 47 #[.int .i64 a0_0,.slice Ao12 t596.length co12] (0,0) _ rfl (blk_put (blk_put (cs:=#[.int .i64 0,.slice none 0 0]) (TZ BK594) 0 _ rfl) 1 _ rfl) Tryz.underlying47 rfl (by kernel_rfl)) rfl ?_
  exact⟨_,TE,by (with_reducible repeat (first|apply Kd.R_alloc|apply Kd.R_drewN|apply Kd.R_drew));exact Kd.R_mono (RK2 (Kd.R_types (Kd.R_types HO598.out BK595.out (by decide)) BK594.out (by decide))) (fun _ hk=>trivial),TB⟩
def impl_within.f (a:Int)(b:Int)(c:Int):Option (Bool):=if a≥b then (some (decide (a≤c))) else (some false)
theorem impl_within.calls {a0:Int}{a1:Int}{a2:Int}{r:Bool}{w:World}(h:impl_within.f a0 a1 a2=some r):
    Calls Tryz.prog 106 #[.int .i64 a0,.int .i64 a1,.int .i64 a2] w fun e w'=>e=.returned (.bool r)∧Drawn0 w w':=by
  have H:=h
  clear h
  unfold impl_within.f at H
  by_cases c4:a0≥a1
  · rw[if_pos c4] at H
    have c4b0:decide (a1≤a0)=true:=decide_eq_true c4
    clear c4
    obtain rfl:=o_I H
    go_enter Tryz.func106,Tryz.ntmps106
    go_wp2
    go_ret
    exact⟨by first|rfl|(simp;done)|(simp [*];done),TD⟩
  · rw[if_neg c4] at H
    have c4b0:decide (a1≤a0)=false:=decide_eq_false c4
    clear c4
    obtain rfl:=o_I H
    go_enter Tryz.func106,Tryz.ntmps106
    go_wp2
    go_ret
    exact⟨by first|rfl|(simp;done)|(simp [*];done),TD⟩
def impl_SizeOk.f (c:Int)(d:Int):Option (Bool):=(impl_within.f c 2 6).bind fun a=>(if a=true then ((impl_within.f d 0 (wrap64 (40 * c))).bind fun b=>(some b)) else (some false))
theorem impl_SizeOk.calls {a0:Int}{a1:Int}{r:Bool}{w:World}(h:impl_SizeOk.f a0 a1=some r):
    Calls Tryz.prog 67 #[.int .i64 a0,.int .i64 a1] w fun e w'=>e=.returned (.bool r)∧Drawn0 w w':=by
  have H:=h
  clear h
  unfold impl_SizeOk.f at H
  replace H:=bE H
  obtain⟨t599,A3,H⟩:=H
  by_cases c4:t599=true
  · subst c4
    replace H:=ifT H
    replace H:=bE H
    obtain⟨t600,A5,H⟩:=H
    obtain rfl:=o_I H
    go_enter Tryz.func67,Tryz.ntmps67
    go_wp2_with (first|(refine g_C 106 ?_;refine gL (some 6) Tryz.func106 #[.int .i64 a0,.int .i64 2,.int .i64 6] ?_;(with_reducible refine(impl_within.calls A3.out).mono ?_);rintro e w' ⟨rfl,⟨nd,rfl⟩⟩;refine⟨_,rfl,?_⟩)|(go_at_call 106;(with_reducible refine(impl_within.calls A5.out).mono ?_);rintro e w' ⟨rfl,⟨nd,rfl⟩⟩))
    go_ret
    exact⟨by first|rfl|(simp;done)|(simp [*];done),TD⟩
  · replace c4:=b_F c4
    subst c4
    replace H:=ifF H
    obtain rfl:=o_I H
    go_enter Tryz.func67,Tryz.ntmps67
    go_wp2_with (first|(refine g_C 106 ?_;refine gL (some 6) Tryz.func106 #[.int .i64 a0,.int .i64 2,.int .i64 6] ?_;(with_reducible refine(impl_within.calls A3.out).mono ?_);rintro e w' ⟨rfl,⟨nd,rfl⟩⟩;refine⟨_,rfl,?_⟩))
    go_ret
    exact⟨by first|rfl|(simp;done)|(simp [*];done),TD⟩
def impl_CeilDiv.f (d:Int)(a:Int):Option (Int):=(impl_within.f d 0 1000000000000).bind fun b=>(if b=true then ((impl_within.f a 1 1000000000000).bind fun c=>(if c=true then (if a=0 then (none) else (some (wrap64 (Int.tdiv (wrap64 ((wrap64 (d+a)) - 1)) a)))) else (some 0))) else (some 0))
theorem impl_CeilDiv.calls {a0:Int}{a1:Int}{r:Int}{w:World}(h:impl_CeilDiv.f a0 a1=some r):
    Calls Tryz.prog 107 #[.int .i64 a0,.int .i64 a1] w fun e w'=>e=.returned (.int .i64 r)∧Drawn0 w w':=by
  have H:=h
  clear h
  unfold impl_CeilDiv.f at H
  replace H:=bE H
  obtain⟨t601,A3,H⟩:=H
  by_cases c4:t601=true
  · subst c4
    replace H:=ifT H
    replace H:=bE H
    obtain⟨t602,A5,H⟩:=H
    by_cases c6:t602=true
    · subst c6
      replace H:=ifT H
      replace H:=ifM H
      obtain⟨c7,H⟩:=H
      have c7b0:(a1==0)=false:=beq_eq_false_iff_ne.mpr c7
      have c7b1:(a1 != 0)=true:=bne_iff_ne.mpr c7
      obtain rfl:=o_I H
      go_enter Tryz.func107,Tryz.ntmps107
      go_wp2_with (first|(refine g_C 106 ?_;refine gL (some 6) Tryz.func106 #[.int .i64 a0,.int .i64 0,.int .i64 1000000000000] ?_;(with_reducible refine(impl_within.calls A3.out).mono ?_);rintro e w' ⟨rfl,⟨nd,rfl⟩⟩;refine⟨_,rfl,?_⟩)|(go_at_call 106;(with_reducible refine(impl_within.calls A5.out).mono ?_);rintro e w' ⟨rfl,⟨nd,rfl⟩⟩))
      go_ret
      exact⟨by first|rfl|(simp;done)|(simp [*];done),TD⟩
    · replace c6:=b_F c6
      subst c6
      replace H:=ifF H
      obtain rfl:=o_I H
      go_enter Tryz.func107,Tryz.ntmps107
      go_wp2_with (first|(refine g_C 106 ?_;refine gL (some 6) Tryz.func106 #[.int .i64 a0,.int .i64 0,.int .i64 1000000000000] ?_;(with_reducible refine(impl_within.calls A3.out).mono ?_);rintro e w' ⟨rfl,⟨nd,rfl⟩⟩;refine⟨_,rfl,?_⟩)|(go_at_call 106;(with_reducible refine(impl_within.calls A5.out).mono ?_);rintro e w' ⟨rfl,⟨nd,rfl⟩⟩))
      go_ret
      exact⟨by first|rfl|(simp;done)|(simp [*];done),TD⟩
  · replace c4:=b_F c4
    subst c4
    replace H:=ifF H
    obtain rfl:=o_I H
    go_enter Tryz.func107,Tryz.ntmps107
    go_wp2_with (first|(refine g_C 106 ?_;refine gL (some 6) Tryz.func106 #[.int .i64 a0,.int .i64 0,.int .i64 1000000000000] ?_;(with_reducible refine(impl_within.calls A3.out).mono ?_);rintro e w' ⟨rfl,⟨nd,rfl⟩⟩;refine⟨_,rfl,?_⟩))
    go_ret
    exact⟨by first|rfl|(simp;done)|(simp [*];done),TD⟩
def impl_Blocks.f (c:Int)(d:Int):Option (Int):=(impl_SizeOk.f c d).bind fun a=>(if a=true then ((impl_CeilDiv.f d c).bind fun b=>(some b)) else (some 0))
theorem impl_Blocks.calls {a0:Int}{a1:Int}{r:Int}{w:World}(h:impl_Blocks.f a0 a1=some r):
    Calls Tryz.prog 68 #[.int .i64 a0,.int .i64 a1] w fun e w'=>e=.returned (.int .i64 r)∧Drawn0 w w':=by
  have H:=h
  clear h
  unfold impl_Blocks.f at H
  replace H:=bE H
  obtain⟨t603,A3,H⟩:=H
  by_cases c4:t603=true
  · subst c4
    replace H:=ifT H
    replace H:=bE H
    obtain⟨t604,A5,H⟩:=H
    obtain rfl:=o_I H
    go_enter Tryz.func68,Tryz.ntmps68
    go_wp2_with (first|(refine g_C 67 ?_;refine gL (some 7) Tryz.func67 #[.int .i64 a0,.int .i64 a1] ?_;(with_reducible refine(impl_SizeOk.calls A3.out).mono ?_);rintro e w' ⟨rfl,⟨nd,rfl⟩⟩;refine⟨_,rfl,?_⟩)|(refine g_C 107 ?_;refine gL (some 11) Tryz.func107 #[.int .i64 a1,.int .i64 a0] ?_;(with_reducible refine(impl_CeilDiv.calls A5.out).mono ?_);rintro e w' ⟨rfl,⟨nd,rfl⟩⟩;refine⟨_,rfl,?_⟩))
    go_ret
    exact⟨by first|rfl|(simp;done)|(simp [*];done),TD⟩
  · replace c4:=b_F c4
    subst c4
    replace H:=ifF H
    obtain rfl:=o_I H
    go_enter Tryz.func68,Tryz.ntmps68
    go_wp2_with (first|(refine g_C 67 ?_;refine gL (some 7) Tryz.func67 #[.int .i64 a0,.int .i64 a1] ?_;(with_reducible refine(impl_SizeOk.calls A3.out).mono ?_);rintro e w' ⟨rfl,⟨nd,rfl⟩⟩;refine⟨_,rfl,?_⟩))
    go_ret
    exact⟨by first|rfl|(simp;done)|(simp [*];done),TD⟩
def impl_SpanOf.f (a:Int)(e:Int)(b:Int):Option (Int×Int):=(impl_Blocks.f a e).bind fun c=>((impl_within.f b 0 (wrap64 (c - 1))).bind fun d=>(if d=true then (some (wrap64 (b * a),mn a (wrap64 (e - (wrap64 (b * a)))))) else (some (0,0))))
theorem impl_SpanOf.calls {a0:Int}{a1:Int}{a2:Int}{r1:Int}{r2:Int}{w:World}(h:impl_SpanOf.f a0 a1 a2=some (r1,r2)):
    Calls Tryz.prog 108 #[.int .i64 a0,.int .i64 a1,.int .i64 a2] w fun e w'=>e=.returned (.tuple #[.int .i64 r1,.int .i64 r2])∧Below w.heap.size w w':=by
  have HB:=aM (Below.refl w.heap.size w)
  have H:=h
  clear h
  unfold impl_SpanOf.f at H
  replace H:=bE H
  obtain⟨t605,A4,H⟩:=H
  replace H:=bE H
  obtain⟨t606,A5,H⟩:=H
  go_enter Tryz.func108,Tryz.ntmps108
  go_wp2_with (first|(refine g_C 68 ?_;refine gL (some 11) Tryz.func68 #[.int .i64 a0,.int .i64 a1] ?_;(with_reducible refine(impl_Blocks.calls A4.out).mono ?_);rintro e w' ⟨rfl,⟨nd,rfl⟩⟩;refine⟨_,rfl,?_⟩)|(refine g_C 106 ?_;refine gL (some 13) Tryz.func106 #[.int .i64 a2,.int .i64 0,.int .i64 (wrap64 (t605 - 1))] ?_;(with_reducible refine(impl_within.calls A5.out).mono ?_);rintro e w' ⟨rfl,⟨nd,rfl⟩⟩;refine⟨_,rfl,?_⟩)|(refine g_D 14 ?_;generalize hG_:wpList _ _ _ _ _ _=G_))
  subst hG_
  by_cases c7:t606=true
  · subst c7
    replace H:=ifT H
    obtain⟨ji8,hji8⟩:∃j_:Int,(mn a0 (wrap64 (a1 - (wrap64 (a2 * a0)))))=j_:=⟨_,rfl⟩
    (first|rw[hji8] at H|simp only[hji8] at H|skip)
    have hji8_:(if (wrap64 (a1 - (wrap64 (a2 * a0))))<a0 then (wrap64 (a1 - (wrap64 (a2 * a0)))) else a0)=ji8:=hji8
    simp only[Option.some.injEq,Prod.mk.injEq] at H
    obtain⟨rfl,rfl⟩:=H
    go_wp2
    go_ret2
    exact⟨by first|rfl|(simp [errW_none,errW_some]<;>rfl)|(simp only[← hji8];first|rfl|(simp [errW_none,errW_some]<;>rfl))|(simp [*,errW_none,errW_some]<;>rfl),TB⟩
  · replace c7:=b_F c7
    subst c7
    replace H:=ifF H
    simp only[Option.some.injEq,Prod.mk.injEq] at H
    obtain⟨rfl,rfl⟩:=H
    go_wp2
    go_ret2
    exact⟨TE,TB⟩
def impl_isZeroMan.f (a:Int)(b:Int)(c:Int)(d:List (S96)):Option (Bool):=if a=0 then (if b=0 then (if c=0 then (some ((d.length:Int)==0)) else (some false)) else (some false)) else (some false)
theorem Yq23_0 {p:Prop}(h:p:=by
 obtain rfl:=o_I H;go_enter Tryz.func115,Tryz.ntmps115;go_wp2_with (first|(refine g_D 1 ?_;(try (refine gate_guard (by rfl) ?_;dsimp only));refine gBx 1 #[.int .i64 ab,.int .i64 aa,.int .i64 ac,.slice af ad.length ae] 45 ?_;intro ag hg w5 hbox hb;have BKq1:=aM (hbox);have GWq1:=gW HB hg;have GEq1:=gW HB hg;replace HB:=bS HB hb;clear hb hbox hg;obtain⟨hczq1,hczq2,hczq3,hczq4⟩:=cz4 BKq1.out;obtain⟨hfzq1,hfzq2,hfzq3,hfzq4⟩:=fz4 BKq1.out))
 go_ret
 exact⟨TE,TB⟩):p:=h
theorem impl_isZeroMan.calls {ab:Int}{aa:Int}{ac:Int}{af:Option Addr}{ae:Nat}{ad:List (S96)}{r:Bool}{w:World}(ah:Kd.C k96 w af ad.length ad)(ai:ad.length≤ae)(h:impl_isZeroMan.f ab aa ac ad=some r):
  Calls Tryz.prog 115 #[.agg #[.int .i64 ab,.int .i64 aa,.int .i64 ac,.slice af ad.length ae]] w fun e w'=>e=.returned (.bool r)∧Below w.heap.size w w':=by
 have hu45:=Tryz.underlying45;have HR0_3:=aM ah;have HC0_3:=aM ai;clear ah ai;have HB:=aM (Below.refl w.heap.size w);have H:=h;clear h;unfold impl_isZeroMan.f at H
 by_cases cq1:ab=0
 ·rw[if_pos cq1] at H;have cq2:(ab==0)=true:=beq_iff_eq.mpr cq1;have cq3:(ab != 0)=false:=bne_eq_false_iff_eq.mpr cq1;clear cq1
  by_cases cq4:aa=0
  ·rw[if_pos cq4] at H;have cq5:(aa==0)=true:=beq_iff_eq.mpr cq4;have cq6:(aa != 0)=false:=bne_eq_false_iff_eq.mpr cq4;clear cq4
   by_cases c4:ac=0
   ·rw[if_pos c4] at H;have c4b0:(ac==0)=true:=beq_iff_eq.mpr c4;have cq7:(ac != 0)=false:=bne_eq_false_iff_eq.mpr c4;clear c4;exact Yq23_0
   ·rw[if_neg c4] at H;have c4b0:(ac==0)=false:=beq_eq_false_iff_ne.mpr c4;have cq7:(ac != 0)=true:=bne_iff_ne.mpr c4;exact Yq23_0
  ·rw[if_neg cq4] at H;have cq5:(aa==0)=false:=beq_eq_false_iff_ne.mpr cq4;have cq6:(aa != 0)=true:=bne_iff_ne.mpr cq4;exact Yq23_0
 ·rw[if_neg cq1] at H;have cq2:(ab==0)=false:=beq_eq_false_iff_ne.mpr cq1;have cq3:(ab != 0)=true:=bne_iff_ne.mpr cq1;exact Yq23_0
def laws_eqByteS.l0 :Nat→List Int→List Int→Int→Option (Bool)
  |0,_,_,_=>none
  |k+1,b,c,a=>if a<(b.length:Int) then (if 0≤a then (if a<(c.length:Int) then (if (rd b a)=(rd c a) then (laws_eqByteS.l0 k b c (wrap64 (a+1))) else (some false)) else (none)) else (none)) else (some true)
def laws_eqByteS.f (k:Nat)(a:List Int)(b:List Int):Option (Bool):=if (a.length:Int)=(b.length:Int) then (laws_eqByteS.l0 k a b 0) else (some false)
theorem laws_eqByteS.mono_l :∀k,(∀a b c,LeO (laws_eqByteS.l0 k a b c) (laws_eqByteS.l0 (k+1) a b c))
  |0=>fun _ _ _ r h=>by simp [laws_eqByteS.l0] at h
  | k+1=>by
    have ih0:=laws_eqByteS.mono_l k
    · intro y0 y1 y2
      unfold laws_eqByteS.l0
      exact LM
theorem laws_eqByteS.mono :∀a b k,LeO (laws_eqByteS.f k a b) (laws_eqByteS.f (k+1) a b):=by
  intro a0 a1 k;have ih0:=laws_eqByteS.mono_l k;unfold laws_eqByteS.f;exact LM
theorem laws_eqByteS.calls {k:Nat}{A0:Option Addr}{c0:Nat}{l0:List Int}{A1:Option Addr}{c1:Nat}{l1:List Int}{r:Bool}{w:World}(hr0:Kd.C (Kd.int .u8) w A0 l0.length l0)(hc0:l0.length≤c0)(hr1:Kd.C (Kd.int .u8) w A1 l1.length l1)(hc1:l1.length≤c1)(h:laws_eqByteS.f k l0 l1=some r):
    Calls Tryz.prog 41 #[.slice A0 l0.length c0,.slice A1 l1.length c1] w fun e w'=>e=.returned (.bool r)∧Drawn0 w w':=by
  have HR0:=aM hr0
  have HC0:=aM hc0
  clear hr0 hc0
  have HR1:=aM hr1
  have HC1:=aM hc1
  clear hr1 hc1
  have H:=h
  clear h
  unfold laws_eqByteS.f at H
  by_cases c3:(l0.length:Int)=(l1.length:Int)
  · rw[if_pos c3] at H
    have c3b0:((l0.length:Int)==(l1.length:Int))=true:=beq_iff_eq.mpr c3
    have c3b1:((l0.length:Int) != (l1.length:Int))=false:=bne_eq_false_iff_eq.mpr c3
    have c3b2:(l0.length==l1.length)=true:=by first|simpa using c3|(simp at c3 ⊢;omega)
    clear c3
    have H':=aM H
    clear H
    go_enter Tryz.func41,Tryz.ntmps41
    go_wp2
    repeat (go_quiet (fail);try go_wp2)
    go_loopg [5] k (fun kq v5 w'=>∃(x5_1:Int),v5=.int .i64 x5_1∧Aside0 (laws_eqByteS.l0 kq l0 l1 x5_1=some r)∧Aside0 (kq≤k)∧Drawn0 w w')
    case atStart=>exact⟨(0),TF,H',⟨Nat.le_refl _⟩,TD⟩
    case round=>
      clear H'
      try clear c1
      try clear p2
      try clear c3
      try clear c3b0
      try clear c3b1
      try clear c3b2
      obtain⟨x5_1,rfl,HA,HK1,⟨m1,rfl⟩⟩:=hrel
      cases gk with
      |zero=>exact absurd HA.out (by simp [laws_eqByteS.l0])
      | succ k1=>
        have H:=HA.out
        clear HA
        simp only[laws_eqByteS.l0] at H
        by_cases c4:x5_1<(l0.length:Int)
        · rw[if_pos c4] at H
          have c4b0:decide (x5_1<(l0.length:Int))=true:=decide_eq_true c4
          clear c4
          replace H:=ifN H
          obtain⟨c5,H⟩:=H
          have c5b0:decide (0≤x5_1)=true:=decide_eq_true c5
          clear c5
          replace H:=ifN H
          obtain⟨c6,H⟩:=H
          have c6b0:decide (x5_1<(l1.length:Int))=true:=decide_eq_true c6
          clear c6
          by_cases c7:(rd l0 x5_1)=(rd l1 x5_1)
          · rw[if_pos c7] at H
            have c7b0:((rd l0 x5_1)==(rd l1 x5_1))=true:=beq_iff_eq.mpr c7
            have c7b1:((rd l0 x5_1) != (rd l1 x5_1))=false:=bne_eq_false_iff_eq.mpr c7
            clear c7
            have H':=aM H
            clear H
            have p989:0≤(x5_1:Int):=DT
            have q989:x5_1<(l0.length:Int):=DT
            obtain⟨ad989,e989,hx989_0⟩:=Kd.at_int HR0.out x5_1 p989 q989
            cases e989
            replace p989:=eq_true p989
            replace q989:=eq_true q989
            have p990:0≤(x5_1:Int):=DT
            have q990:x5_1<(l1.length:Int):=DT
            obtain⟨ad990,e990,hx990_0⟩:=Kd.at_int HR1.out x5_1 p990 q990
            cases e990
            replace p990:=eq_true p990
            replace q990:=eq_true q990
            go_wp2
            repeat (go_quiet (fail);try go_wp2)
            go_roundg k1
            case measure=>have:=HK1.out;omega
            case rel=>exact⟨(wrap64 (x5_1+1)),TF,H',⟨by have:=HK1.out;omega⟩,TD⟩
          · rw[if_neg c7] at H
            have c7b0:((rd l0 x5_1)==(rd l1 x5_1))=false:=beq_eq_false_iff_ne.mpr c7
            have c7b1:((rd l0 x5_1) != (rd l1 x5_1))=true:=bne_iff_ne.mpr c7
            obtain rfl:=o_I H
            have p989:0≤(x5_1:Int):=DT
            have q989:x5_1<(l0.length:Int):=DT
            obtain⟨ad989,e989,hx989_0⟩:=Kd.at_int HR0.out x5_1 p989 q989
            cases e989
            replace p989:=eq_true p989
            replace q989:=eq_true q989
            have p990:0≤(x5_1:Int):=DT
            have q990:x5_1<(l1.length:Int):=DT
            obtain⟨ad990,e990,hx990_0⟩:=Kd.at_int HR1.out x5_1 p990 q990
            cases e990
            replace p990:=eq_true p990
            replace q990:=eq_true q990
            go_wp2
            repeat (go_quiet (fail);try go_wp2)
            go_ret
            exact⟨by first|rfl|(simp;done)|(simp [*];done),TD⟩
        · rw[if_neg c4] at H
          have c4b0:decide (x5_1<(l0.length:Int))=false:=decide_eq_false c4
          clear c4
          obtain rfl:=o_I H
          go_wp2
          repeat (go_quiet (fail);try go_wp2)
          go_ret
          exact⟨by first|rfl|(simp;done)|(simp [*];done),TD⟩
  · rw[if_neg c3] at H
    have c3b0:((l0.length:Int)==(l1.length:Int))=false:=beq_eq_false_iff_ne.mpr c3
    have c3b1:((l0.length:Int) != (l1.length:Int))=true:=bne_iff_ne.mpr c3
    have c3b2:(l0.length==l1.length)=false:=by first|simpa using c3|(simp at c3 ⊢;omega)
    obtain rfl:=o_I H
    go_enter Tryz.func41,Tryz.ntmps41
    go_wp2
    repeat (go_quiet (fail);try go_wp2)
    go_ret
    exact⟨by first|rfl|(simp;done)|(simp [*];done),TD⟩
def laws_eqRecord.f (a:Int)(b:Int)(c:Int)(d:Int)(e:Int)(f:Int):Option (Bool):=if a=d then (if b=e then (if c=f then (some true) else (some false)) else (some false)) else (some false)
theorem laws_eqRecord.calls {a0_0:Int}{a0_1:Int}{a0_2:Int}{a1_0:Int}{a1_1:Int}{a1_2:Int}{r:Bool}{w:World}(h:laws_eqRecord.f a0_0 a0_1 a0_2 a1_0 a1_1 a1_2=some r):
    Calls Tryz.prog 42 #[.agg #[.int .i64 a0_0,.int .i64 a0_1,.int .i64 a0_2],.agg #[.int .i64 a1_0,.int .i64 a1_1,.int .i64 a1_2]] w fun e w'=>e=.returned (.bool r)∧Below w.heap.size w w':=by
  have hu36:=Tryz.underlying36
  have HB:=aM (Below.refl w.heap.size w)
  have H:=h
  clear h
  unfold laws_eqRecord.f at H
  by_cases c3:a0_0=a1_0
  · rw[if_pos c3] at H
    have c3b0:(a0_0==a1_0)=true:=beq_iff_eq.mpr c3
    have c3b1:(a0_0 != a1_0)=false:=bne_eq_false_iff_eq.mpr c3
    clear c3
    by_cases c4:a0_1=a1_1
    · rw[if_pos c4] at H
      have c4b0:(a0_1==a1_1)=true:=beq_iff_eq.mpr c4
      have c4b1:(a0_1 != a1_1)=false:=bne_eq_false_iff_eq.mpr c4
      clear c4
      by_cases c5:a0_2=a1_2
      · rw[if_pos c5] at H
        have c5b0:(a0_2==a1_2)=true:=beq_iff_eq.mpr c5
        have c5b1:(a0_2 != a1_2)=false:=bne_eq_false_iff_eq.mpr c5
        clear c5
        obtain rfl:=o_I H
        go_enter Tryz.func42,Tryz.ntmps42
        go_wp2_with (first|(refine g_D 2 ?_;refine gBx 2 #[.int .i64 a0_0,.int .i64 a0_1,.int .i64 a0_2] 36 ?_;intro gb991 hg w6 hbox hb;have BK991:=aM (hbox);have GW991:=gW HB hg;have GE991:=gW HB hg;replace HB:=bS HB hb;clear hb hbox hg)|(refine g_D 3 ?_;refine gBx 3 #[.int .i64 a1_0,.int .i64 a1_1,.int .i64 a1_2] 36 ?_;intro gb992 hg w7 hbox hb;have BK992:=aM (hbox);have GW992:=gW HB hg;have GE992:=gW HB hg;obtain⟨NB991_992,NB992_991⟩:=nB BK991 hg;replace BK991:=mB BK991 hb;replace HB:=bS HB hb;clear hb hbox hg;obtain⟨hnb8,hnc8⟩:=oB NB991_992;obtain⟨hcz9_0,hcz9_1,hcz9_2⟩:=cz3 BK991.out;obtain⟨hfz9_0,hfz9_1,hfz9_2⟩:=fz3 BK991.out;obtain⟨hcz10_0,hcz10_1,hcz10_2⟩:=cz3 BK992.out;obtain⟨hfz10_0,hfz10_1,hfz10_2⟩:=fz3 BK992.out))
        go_ret
        exact⟨TE,TB⟩
      · rw[if_neg c5] at H
        have c5b0:(a0_2==a1_2)=false:=beq_eq_false_iff_ne.mpr c5
        have c5b1:(a0_2 != a1_2)=true:=bne_iff_ne.mpr c5
        obtain rfl:=o_I H
        go_enter Tryz.func42,Tryz.ntmps42
        go_wp2_with (first|(refine g_D 2 ?_;refine gBx 2 #[.int .i64 a0_0,.int .i64 a0_1,.int .i64 a0_2] 36 ?_;intro gb991 hg w11 hbox hb;have BK991:=aM (hbox);have GW991:=gW HB hg;have GE991:=gW HB hg;replace HB:=bS HB hb;clear hb hbox hg)|(refine g_D 3 ?_;refine gBx 3 #[.int .i64 a1_0,.int .i64 a1_1,.int .i64 a1_2] 36 ?_;intro gb992 hg w12 hbox hb;have BK992:=aM (hbox);have GW992:=gW HB hg;have GE992:=gW HB hg;obtain⟨NB991_992,NB992_991⟩:=nB BK991 hg;replace BK991:=mB BK991 hb;replace HB:=bS HB hb;clear hb hbox hg;obtain⟨hnb13,hnc13⟩:=oB NB991_992;obtain⟨hcz14_0,hcz14_1,hcz14_2⟩:=cz3 BK991.out;obtain⟨hfz14_0,hfz14_1,hfz14_2⟩:=fz3 BK991.out;obtain⟨hcz15_0,hcz15_1,hcz15_2⟩:=cz3 BK992.out;obtain⟨hfz15_0,hfz15_1,hfz15_2⟩:=fz3 BK992.out))
        go_ret
        exact⟨TE,TB⟩
    · rw[if_neg c4] at H
      have c4b0:(a0_1==a1_1)=false:=beq_eq_false_iff_ne.mpr c4
      have c4b1:(a0_1 != a1_1)=true:=bne_iff_ne.mpr c4
      obtain rfl:=o_I H
      go_enter Tryz.func42,Tryz.ntmps42
      go_wp2_with (first|(refine g_D 2 ?_;refine gBx 2 #[.int .i64 a0_0,.int .i64 a0_1,.int .i64 a0_2] 36 ?_;intro gb991 hg w16 hbox hb;have BK991:=aM (hbox);have GW991:=gW HB hg;have GE991:=gW HB hg;replace HB:=bS HB hb;clear hb hbox hg)|(refine g_D 3 ?_;refine gBx 3 #[.int .i64 a1_0,.int .i64 a1_1,.int .i64 a1_2] 36 ?_;intro gb992 hg w17 hbox hb;have BK992:=aM (hbox);have GW992:=gW HB hg;have GE992:=gW HB hg;obtain⟨NB991_992,NB992_991⟩:=nB BK991 hg;replace BK991:=mB BK991 hb;replace HB:=bS HB hb;clear hb hbox hg;obtain⟨hnb18,hnc18⟩:=oB NB991_992;obtain⟨hcz19_0,hcz19_1,hcz19_2⟩:=cz3 BK991.out;obtain⟨hfz19_0,hfz19_1,hfz19_2⟩:=fz3 BK991.out;obtain⟨hcz20_0,hcz20_1,hcz20_2⟩:=cz3 BK992.out;obtain⟨hfz20_0,hfz20_1,hfz20_2⟩:=fz3 BK992.out))
      go_ret
      exact⟨TE,TB⟩
  · rw[if_neg c3] at H
    have c3b0:(a0_0==a1_0)=false:=beq_eq_false_iff_ne.mpr c3
    have c3b1:(a0_0 != a1_0)=true:=bne_iff_ne.mpr c3
    obtain rfl:=o_I H
    go_enter Tryz.func42,Tryz.ntmps42
    go_wp2_with (first|(refine g_D 2 ?_;refine gBx 2 #[.int .i64 a0_0,.int .i64 a0_1,.int .i64 a0_2] 36 ?_;intro gb991 hg w21 hbox hb;have BK991:=aM (hbox);have GW991:=gW HB hg;have GE991:=gW HB hg;replace HB:=bS HB hb;clear hb hbox hg)|(refine g_D 3 ?_;refine gBx 3 #[.int .i64 a1_0,.int .i64 a1_1,.int .i64 a1_2] 36 ?_;intro gb992 hg w22 hbox hb;have BK992:=aM (hbox);have GW992:=gW HB hg;have GE992:=gW HB hg;obtain⟨NB991_992,NB992_991⟩:=nB BK991 hg;replace BK991:=mB BK991 hb;replace HB:=bS HB hb;clear hb hbox hg;obtain⟨hnb23,hnc23⟩:=oB NB991_992;obtain⟨hcz24_0,hcz24_1,hcz24_2⟩:=cz3 BK991.out;obtain⟨hfz24_0,hfz24_1,hfz24_2⟩:=fz3 BK991.out;obtain⟨hcz25_0,hcz25_1,hcz25_2⟩:=cz3 BK992.out;obtain⟨hfz25_0,hfz25_1,hfz25_2⟩:=fz3 BK992.out))
    go_ret
    exact⟨TE,TB⟩
def laws_eqPut.f (k:Nat)(a:Int)(b:Int)(c:List Int)(d:Int)(e:Int)(f:Int)(g:Int)(h:Int)(i:List Int)(j:Int)(l:Int)(m:Int):Option (Bool):=if a=g then (if b=h then ((laws_eqByteS.f k c i).bind fun n=>(if n=true then ((laws_eqRecord.f d e f j l m).bind fun o=>(if o=true then (some true) else (some false))) else (some false))) else (some false)) else (some false)
theorem laws_eqPut.mono :∀c d e f g h i j l m a b k,LeO (laws_eqPut.f k c d e f g h i j l m a b) (laws_eqPut.f (k+1) c d e f g h i j l m a b):=by
  intro a0 a1 a2 a3 a4 a5 a6 a7 a8 a9 a10 a11 k;have m0_:=@laws_eqByteS.mono;unfold laws_eqPut.f;exact LM
theorem Yq40_0 {p:Prop}(h:p:=by
 obtain rfl:=o_I H;go_enter Tryz.func76,Tryz.ntmps76;go_wp2_with (first|(refine g_D 2 ?_;refine gBx 2 #[.int .i64 af,.int .i64 ae,.slice ao ad.length am,.int .i64 aj,.int .i64 ah,.int .i64 ag] 91 ?_;intro gbq1 hg wq1 hbox hb;have BKq1:=aM (hbox);have GWq1:=gW HB hg;have GEq1:=gW HB hg;replace HB:=bS HB hb;clear hb hbox hg)|(refine g_D 3 ?_;refine gBx 3 #[.int .i64 aa,.int .i64 ac,.slice ap ab.length an,.int .i64 ai,.int .i64 al,.int .i64 ak] 91 ?_;intro gbq2 hg wq2 hbox hb;have BKq2:=aM (hbox);have GWq2:=gW HB hg;have GEq2:=gW HB hg;obtain⟨NBq1,NBq2⟩:=nB BKq1 hg;replace BKq1:=mB BKq1 hb;replace HB:=bS HB hb;clear hb hbox hg;obtain⟨hnbq1,hncq1⟩:=oB NBq1;obtain⟨hczq1,hczq2,hczq3,hczq4,hczq5,hczq6⟩:=cz6 BKq1.out;obtain⟨hfzq1,hfzq2,hfzq3,hfzq4,hfzq5,hfzq6⟩:=fz6 BKq1.out;obtain⟨hczq7,hczq8,hczq9,ax,av,aq⟩:=cz6 BKq2.out;obtain⟨hfzq7,hfzq8,hfzq9,ar,aw,au⟩:=fz6 BKq2.out))
 go_ret
 exact⟨TE,TB⟩):p:=h
theorem laws_eqPut.calls {k:Nat}{af:Int}{ae:Int}{ao:Option Addr}{am:Nat}{ad:List Int}{aj:Int}{ah:Int}{ag:Int}{aa:Int}{ac:Int}{ap:Option Addr}{an:Nat}{ab:List Int}{ai:Int}{al:Int}{ak:Int}{r:Bool}{w:World}(ay:Kd.C (Kd.int .u8) w ao ad.length ad)(aB:ad.length≤am)(aA:Kd.C (Kd.int .u8) w ap ab.length ab)(az:ab.length≤an)(h:laws_eqPut.f k af ae ad aj ah ag aa ac ab ai al ak=some r):
  Calls Tryz.prog 76 #[.agg #[.int .i64 af,.int .i64 ae,.slice ao ad.length am,.int .i64 aj,.int .i64 ah,.int .i64 ag],.agg #[.int .i64 aa,.int .i64 ac,.slice ap ab.length an,.int .i64 ai,.int .i64 al,.int .i64 ak]] w fun e w'=>e=.returned (.bool r)∧Below w.heap.size w w':=by
 have huq1:=Tryz.underlying91;have hu36:=Tryz.underlying36;have HRq1:=aM ay;have HCq1:=aM aB;clear ay aB;have HRq2:=aM aA;have HCq2:=aM az;clear aA az;have HB:=aM (Below.refl w.heap.size w);have H:=h;clear h;unfold laws_eqPut.f at H
 by_cases c3:af=aa
 ·rw[if_pos c3] at H;have c3b0:(af==aa)=true:=beq_iff_eq.mpr c3;have c3b1:(af != aa)=false:=bne_eq_false_iff_eq.mpr c3;clear c3
  by_cases c4:ae=ac
  ·rw[if_pos c4] at H;have c4b0:(ae==ac)=true:=beq_iff_eq.mpr c4;have c4b1:(ae != ac)=false:=bne_eq_false_iff_eq.mpr c4;clear c4;replace H:=bE H;obtain⟨t995,Aq1,H⟩:=H;go_enter Tryz.func76,Tryz.ntmps76;go_wp2_with (first|(refine g_D 2 ?_;refine gBx 2 #[.int .i64 af,.int .i64 ae,.slice ao ad.length am,.int .i64 aj,.int .i64 ah,.int .i64 ag] 91 ?_;intro gbq1 hg w7 hbox hb;have BKq1:=aM (hbox);have GWq1:=gW HB hg;have GEq1:=gW HB hg;replace HB:=bS HB hb;clear hb hbox hg)|(refine g_D 3 ?_;refine gBx 3 #[.int .i64 aa,.int .i64 ac,.slice ap ab.length an,.int .i64 ai,.int .i64 al,.int .i64 ak] 91 ?_;intro gbq2 hg wq1 hbox hb;have BKq2:=aM (hbox);have GWq2:=gW HB hg;have GEq2:=gW HB hg;obtain⟨NBq1,NBq2⟩:=nB BKq1 hg;replace BKq1:=mB BKq1 hb;replace HB:=bS HB hb;clear hb hbox hg;obtain⟨hnbq1,hncq1⟩:=oB NBq1;obtain⟨hcz10_0,hcz10_1,hcz10_2,hczq1,hczq2,hczq3⟩:=cz6 BKq1.out;obtain⟨hfz10_0,hfz10_1,hfz10_2,hfzq1,hfzq2,hfzq3⟩:=fz6 BKq1.out;obtain⟨hczq4,hczq5,hczq6,hczq7,hczq8,hczq9⟩:=cz6 BKq2.out;obtain⟨hfzq4,hfzq5,hfzq6,hfzq7,hfzq8,hfzq9⟩:=fz6 BKq2.out)|(refine g_C 41 ?_;refine gL (some 19) Tryz.func41 #[.slice ao ad.length am,.slice ap ab.length an] ?_;(with_reducible refine(laws_eqByteS.calls ?side1 ?side2 ?side3 ?side4 Aq1.out).mono ?_);(case side1=>have X_:=(Kd.C_below HRq1.out HB.out);exact TC);(case side2=>exact HCq1.out);(case side3=>have X_:=(Kd.C_below HRq2.out HB.out);exact TC);(case side4=>exact HCq2.out);rintro e w' ⟨rfl,⟨nd,rfl⟩⟩;refine⟨_,rfl,?_⟩)|(refine g_D 20 ?_;generalize hG_:wpList _ _ _ _ _ _=G_))
   subst hG_
   by_cases cq1:t995=true
   ·subst cq1;replace H:=ifT H;replace H:=bE H;obtain⟨t996,Aq2,H⟩:=H;obtain⟨hnbq2,hncq2⟩:=oB NBq1;obtain⟨ax,av,aq,hczq13,hczq14,hczq15⟩:=cz6 BKq1.out;obtain⟨ar,aw,au,hfzq13,hfzq14,hfzq15⟩:=fz6 BKq1.out;obtain⟨hczq16,hczq17,hczq18,hczq19,hczq20,hczq21⟩:=cz6 BKq2.out;obtain⟨hfzq16,hfzq17,hfzq18,hfzq19,hfzq20,hfzq21⟩:=fz6 BKq2.out
    by_cases cq2:t996=true
    ·subst cq2;replace H:=ifT H;obtain rfl:=o_I H;go_wp2_with (first|(refine g_C 42 ?_;refine gL (some 25) Tryz.func42 #[.agg #[.int .i64 aj,.int .i64 ah,.int .i64 ag],.agg #[.int .i64 ai,.int .i64 al,.int .i64 ak]] ?_;(with_reducible refine(laws_eqRecord.calls Aq2.out).mono ?_);rintro e wq2 ⟨rfl,hb⟩;refine⟨_,rfl,?_⟩;replace BKq1:=mB BKq1 hb;replace BKq2:=mB BKq2 hb;replace HB:=bS HB hb;clear hb))
     go_ret
     exact⟨TE,TB⟩
    ·replace cq2:=b_F cq2;subst cq2;replace H:=ifF H;obtain rfl:=o_I H;go_wp2_with (first|(refine g_C 42 ?_;refine gL (some 25) Tryz.func42 #[.agg #[.int .i64 aj,.int .i64 ah,.int .i64 ag],.agg #[.int .i64 ai,.int .i64 al,.int .i64 ak]] ?_;(with_reducible refine(laws_eqRecord.calls Aq2.out).mono ?_);rintro e w22 ⟨rfl,hb⟩;refine⟨_,rfl,?_⟩;replace BKq1:=mB BKq1 hb;replace BKq2:=mB BKq2 hb;replace HB:=bS HB hb;clear hb))
     go_ret
     exact⟨TE,TB⟩
   ·replace cq1:=b_F cq1;subst cq1;replace H:=ifF H;obtain rfl:=o_I H;go_wp2
    go_ret
    exact⟨TE,TB⟩
  ·rw[if_neg c4] at H;have c4b0:(ae==ac)=false:=beq_eq_false_iff_ne.mpr c4;have c4b1:(ae != ac)=true:=bne_iff_ne.mpr c4;exact Yq40_0
 ·rw[if_neg c3] at H;have c3b0:(af==aa)=false:=beq_eq_false_iff_ne.mpr c3;have c3b1:(af != aa)=true:=bne_iff_ne.mpr c3;exact Yq40_0
theorem Zq41_0 {p:Prop}(h:p:=by repeat (first|exact(Kd.C_below HRq2.out TB)|(with_reducible refine Kd.C_alloc ?_ _)|(with_reducible refine Kd.C_drewN ?_ _)|(with_reducible refine Kd.C_drew ?_))):p:=h
theorem Zq41_1 {p:Prop}(h:p:=by repeat (first|exact(Kd.C_below HRq5.out TB)|(with_reducible refine Kd.C_alloc ?_ _)|(with_reducible refine Kd.C_drewN ?_ _)|(with_reducible refine Kd.C_drew ?_))):p:=h
theorem Zq41_2 {p:Prop}(h:p:=by repeat (first|exact(Kd.C_below HRq3.out TB)|(with_reducible refine Kd.C_alloc ?_ _)|(with_reducible refine Kd.C_drewN ?_ _)|(with_reducible refine Kd.C_drew ?_))):p:=h
theorem Zq41_3 {p:Prop}(h:p:=by repeat (first|exact(Kd.C_below HRq6.out TB)|(with_reducible refine Kd.C_alloc ?_ _)|(with_reducible refine Kd.C_drewN ?_ _)|(with_reducible refine Kd.C_drew ?_))):p:=h
def laws_eqPutS.l0 :Nat→List (S91)→List (S91)→Int→Option (Bool)
  |0,_,_,_=>none
  |k+1,b,c,a=>if a<(b.length:Int) then (if 0≤a then (if a<(c.length:Int) then ((laws_eqPut.f k ((rd_T91 b a).f0) ((rd_T91 b a).f1) ((rd_T91 b a).f2) ((rd_T91 b a).f3.f0) ((rd_T91 b a).f3.f1) ((rd_T91 b a).f3.f2) ((rd_T91 c a).f0) ((rd_T91 c a).f1) ((rd_T91 c a).f2) ((rd_T91 c a).f3.f0) ((rd_T91 c a).f3.f1) ((rd_T91 c a).f3.f2)).bind fun d=>(if d=true then (laws_eqPutS.l0 k b c (wrap64 (a+1))) else (some false))) else (none)) else (none)) else (some true)
def laws_eqPutS.f (k:Nat)(a:List (S91))(b:List (S91)):Option (Bool):=if (a.length:Int)=(b.length:Int) then (laws_eqPutS.l0 k a b 0) else (some false)
theorem laws_eqPutS.mono_l :∀k,(∀a b c,LeO (laws_eqPutS.l0 k a b c) (laws_eqPutS.l0 (k+1) a b c))
  |0=>fun _ _ _ r h=>by simp [laws_eqPutS.l0] at h
  | k+1=>by
    have m0_:=@laws_eqPut.mono
    have ih0:=laws_eqPutS.mono_l k
    · intro y0 y1 y2
      unfold laws_eqPutS.l0
      exact LM
theorem laws_eqPutS.mono :∀a b k,LeO (laws_eqPutS.f k a b) (laws_eqPutS.f (k+1) a b):=by
  intro a0 a1 k;have m0_:=@laws_eqPut.mono;have ih0:=laws_eqPutS.mono_l k;unfold laws_eqPutS.f;exact LM
def laws_eqPutS.T6 :Bool×List (List Nat×List Nat):=(true,[([],[]),([],[]),([0,1],[0,1]),([2],[2]),([],[]),([],[]),([4,5],[4,5]),([6],[6]),([3,7],[3,7]),([8],[8])])
def laws_eqPutS.B6 :List Nat:=[0,0,3,7,0,0,48,112,255,511]
theorem laws_eqPutS.tab6 :rtab .any (opsOf Tryz.f43 6)=laws_eqPutS.T6:=by kernel_rfl
theorem laws_eqPutS.bits6 :waitsOk laws_eqPutS.T6.2 laws_eqPutS.B6=true:=by kernel_rfl
theorem laws_eqPutS.calls {k:Nat}{A0:Option Addr}{c0:Nat}{l0:List (S91)}{A1:Option Addr}{c1:Nat}{l1:List (S91)}{r:Bool}{w:World}(hr0:Kd.C k91 w A0 l0.length l0)(hc0:l0.length≤c0)(hr1:Kd.C k91 w A1 l1.length l1)(hc1:l1.length≤c1)(h:laws_eqPutS.f k l0 l1=some r):
    Calls Tryz.prog 43 #[.slice A0 l0.length c0,.slice A1 l1.length c1] w fun e w'=>e=.returned (.bool r)∧Below w.heap.size w w':=by
  have hu91:=Tryz.underlying91
  have HR0:=aM hr0
  have HC0:=aM hc0
  clear hr0 hc0
  have HR1:=aM hr1
  have HC1:=aM hc1
  clear hr1 hc1
  have HB:=aM (Below.refl w.heap.size w)
  have H:=h
  clear h
  unfold laws_eqPutS.f at H
  by_cases c3:(l0.length:Int)=(l1.length:Int)
  · rw[if_pos c3] at H
    have c3b0:((l0.length:Int)==(l1.length:Int))=true:=beq_iff_eq.mpr c3
    have c3b1:((l0.length:Int) != (l1.length:Int))=false:=bne_eq_false_iff_eq.mpr c3
    have c3b2:(l0.length==l1.length)=true:=by first|simpa using c3|(simp at c3 ⊢;omega)
    clear c3
    have H':=aM H
    clear H
    go_enter Tryz.func43,Tryz.ntmps43
    go_wp2
    go_loopg [5] k (fun kq v5 w'=>∃(x5_1:Int),v5=.int .i64 x5_1∧Aside0 (laws_eqPutS.l0 kq l0 l1 x5_1=some r)∧Aside0 (kq≤k)∧Aside0 (Below w.heap.size w w'))
    case atStart=>exact⟨(0),TF,H',⟨Nat.le_refl _⟩,⟨TB⟩⟩
    case round=>
      clear H'
      try clear c1
      try clear p2
      try clear c3
      try clear c3b0
      try clear c3b1
      try clear c3b2
      obtain⟨x5_1,rfl,HA,HK1,HB⟩:=hrel
      cases gk with
      |zero=>exact absurd HA.out (by simp [laws_eqPutS.l0])
      | succ k1=>
        have H:=HA.out
        clear HA
        simp only[laws_eqPutS.l0] at H
        by_cases c4:x5_1<(l0.length:Int)
        · rw[if_pos c4] at H
          have c4b0:decide (x5_1<(l0.length:Int))=true:=decide_eq_true c4
          clear c4
          replace H:=ifN H
          obtain⟨c5,H⟩:=H
          have c5b0:decide (0≤x5_1)=true:=decide_eq_true c5
          clear c5
          replace H:=ifN H
          obtain⟨c6,H⟩:=H
          have c6b0:decide (x5_1<(l1.length:Int))=true:=decide_eq_true c6
          clear c6
          replace H:=bE H
          obtain⟨t999,A7,H⟩:=H
          try go_wp2
          replace HB:=aM (below_drew1 HB.out)
          have p997:0≤(x5_1:Int):=DT
          have q997:x5_1<(l0.length:Int):=DT
          obtain⟨ad997,A997_2,c997_2,e997,hx997_0,hx997_1,hx997_2,hx997_3,hx997_4,hx997_5,hl997_2,hi997_2⟩:=at_T91 HR0.out x5_1 p997 q997
          have hw997_5:=hx997_5
          have hw997_4:=hx997_4
          have hw997_3:=hx997_3
          have hw997_2:=hx997_2
          have hw997_1:=hx997_1
          have hw997_0:=hx997_0
          cases e997
          replace hx997_0:=(HB.out.cell (World.block_lt_of_cell? w _ hx997_0)).trans hx997_0
          replace hx997_1:=(HB.out.cell (World.block_lt_of_cell? w _ hx997_1)).trans hx997_1
          replace hx997_2:=(HB.out.cell (World.block_lt_of_cell? w _ hx997_2)).trans hx997_2
          replace hx997_3:=(HB.out.cell (World.block_lt_of_cell? w _ hx997_3)).trans hx997_3
          replace hx997_4:=(HB.out.cell (World.block_lt_of_cell? w _ hx997_4)).trans hx997_4
          replace hx997_5:=(HB.out.cell (World.block_lt_of_cell? w _ hx997_5)).trans hx997_5
          have HR997_2:=aM hi997_2
          have HC997_2:=aM hl997_2
          clear hi997_2 hl997_2
          replace p997:=eq_true p997
          replace q997:=eq_true q997
          have p998:0≤(x5_1:Int):=DT
          have q998:x5_1<(l1.length:Int):=DT
          obtain⟨ad998,A998_2,c998_2,e998,hx998_0,hx998_1,hx998_2,hx998_3,hx998_4,hx998_5,hl998_2,hi998_2⟩:=at_T91 HR1.out x5_1 p998 q998
          have hw998_5:=hx998_5
          have hw998_4:=hx998_4
          have hw998_3:=hx998_3
          have hw998_2:=hx998_2
          have hw998_1:=hx998_1
          have hw998_0:=hx998_0
          cases e998
          replace hx998_0:=(HB.out.cell (World.block_lt_of_cell? w _ hx998_0)).trans hx998_0
          replace hx998_1:=(HB.out.cell (World.block_lt_of_cell? w _ hx998_1)).trans hx998_1
          replace hx998_2:=(HB.out.cell (World.block_lt_of_cell? w _ hx998_2)).trans hx998_2
          replace hx998_3:=(HB.out.cell (World.block_lt_of_cell? w _ hx998_3)).trans hx998_3
          replace hx998_4:=(HB.out.cell (World.block_lt_of_cell? w _ hx998_4)).trans hx998_4
          replace hx998_5:=(HB.out.cell (World.block_lt_of_cell? w _ hx998_5)).trans hx998_5
          have HR998_2:=aM hi998_2
          have HC998_2:=aM hl998_2
          clear hi998_2 hl998_2
          replace p998:=eq_true p998
          replace q998:=eq_true q998
          refine start_ (n:=10) (S:=fun w'=>w'.cell? (ad997.add ((x5_1).toNat * 6))=some (.int .i64 ((rd_T91 l0 x5_1).f0))∧w'.cell? ⟨(ad997.add ((x5_1).toNat * 6)).block,(ad997.add ((x5_1).toNat * 6)).off+1,none⟩=some (.int .i64 ((rd_T91 l0 x5_1).f1))∧w'.cell? ⟨(ad997.add ((x5_1).toNat * 6)).block,(ad997.add ((x5_1).toNat * 6)).off+2,none⟩=some (.slice A997_2 ((rd_T91 l0 x5_1).f2).length c997_2)∧w'.cell? ⟨(ad997.add ((x5_1).toNat * 6)).block,(ad997.add ((x5_1).toNat * 6)).off+3,none⟩=some (.int .i64 ((rd_T91 l0 x5_1).f3.f0))∧w'.cell? ⟨(ad997.add ((x5_1).toNat * 6)).block,(ad997.add ((x5_1).toNat * 6)).off+4,none⟩=some (.int .i64 ((rd_T91 l0 x5_1).f3.f1))∧w'.cell? ⟨(ad997.add ((x5_1).toNat * 6)).block,(ad997.add ((x5_1).toNat * 6)).off+5,none⟩=some (.int .i64 ((rd_T91 l0 x5_1).f3.f2))∧w'.cell? (ad998.add ((x5_1).toNat * 6))=some (.int .i64 ((rd_T91 l1 x5_1).f0))∧w'.cell? ⟨(ad998.add ((x5_1).toNat * 6)).block,(ad998.add ((x5_1).toNat * 6)).off+1,none⟩=some (.int .i64 ((rd_T91 l1 x5_1).f1))∧w'.cell? ⟨(ad998.add ((x5_1).toNat * 6)).block,(ad998.add ((x5_1).toNat * 6)).off+2,none⟩=some (.slice A998_2 ((rd_T91 l1 x5_1).f2).length c998_2)∧w'.cell? ⟨(ad998.add ((x5_1).toNat * 6)).block,(ad998.add ((x5_1).toNat * 6)).off+3,none⟩=some (.int .i64 ((rd_T91 l1 x5_1).f3.f0))∧w'.cell? ⟨(ad998.add ((x5_1).toNat * 6)).block,(ad998.add ((x5_1).toNat * 6)).off+4,none⟩=some (.int .i64 ((rd_T91 l1 x5_1).f3.f1))∧w'.cell? ⟨(ad998.add ((x5_1).toNat * 6)).block,(ad998.add ((x5_1).toNat * 6)).off+5,none⟩=some (.int .i64 ((rd_T91 l1 x5_1).f3.f2))) (ds:=[]) (Array.replicate 10 false) (by kernel_rfl) rfl rfl ⟨(b_W HB hw997_0),(b_W HB hw997_1),(b_W HB hw997_2),(b_W HB hw997_3),(b_W HB hw997_4),(b_W HB hw997_5),(b_W HB hw998_0),(b_W HB hw998_1),(b_W HB hw998_2),(b_W HB hw998_3),(b_W HB hw998_4),(b_W HB hw998_5)⟩ (fun hHeld=>?_);refine with_tabW laws_eqPutS.tab6 laws_eqPutS.bits6 (fun HT_ HW_=>?_)
          generalize wr.drew=w9 at HB HR997_2 HR998_2 hx997_0 hx997_1 hx997_2 hx997_3 hx997_4 hx997_5 hx998_0 hx998_1 hx998_2 hx998_3 hx998_4 hx998_5 hHeld ⊢
          refine ppq 0 17 ?_
          refine ppq 1 18 ?_
          refine ppq 2 19 ?_
          refine ppq 4 21 ?_
          refine ppq 5 22 ?_
          refine ppq 6 23 ?_
          refine ptq 3 20 ?_
          refine ptq 7 24 ?_
          refine poq 8 25 (fun K hK=>?_)
          refine gG Tryz.func76 #[.agg #[.int .i64 ((rd_T91 l0 x5_1).f0),.int .i64 ((rd_T91 l0 x5_1).f1),.slice A997_2 ((rd_T91 l0 x5_1).f2).length c997_2,.int .i64 ((rd_T91 l0 x5_1).f3.f0),.int .i64 ((rd_T91 l0 x5_1).f3.f1),.int .i64 ((rd_T91 l0 x5_1).f3.f2)],.agg #[.int .i64 ((rd_T91 l1 x5_1).f0),.int .i64 ((rd_T91 l1 x5_1).f1),.slice A998_2 ((rd_T91 l1 x5_1).f2).length c998_2,.int .i64 ((rd_T91 l1 x5_1).f3.f0),.int .i64 ((rd_T91 l1 x5_1).f3.f1),.int .i64 ((rd_T91 l1 x5_1).f3.f2)]] ?_
          with_reducible refine(laws_eqPut.calls ?side1 ?side2 ?side3 ?side4 A7.out).mono ?_
          (case side1=>have X_:=(Kd.C_below HR997_2.out HB.out);exact TC)
          (case side2=>exact HC997_2.out)
          (case side3=>have X_:=(Kd.C_below HR998_2.out HB.out);exact TC)
          (case side4=>exact HC998_2.out)
          rintro e w10 ⟨rfl,hb⟩
          refine⟨_,rfl,?_⟩
          replace HB:=bS HB hb
          (try clear hb)
          (try clear hb2)
          (try clear hk)
          (try clear hi)
          refine hK.out _ _ ⟨(b_W HB hw997_0),(b_W HB hw997_1),(b_W HB hw997_2),(b_W HB hw997_3),(b_W HB hw997_4),(b_W HB hw997_5),(b_W HB hw998_0),(b_W HB hw998_1),(b_W HB hw998_2),(b_W HB hw998_3),(b_W HB hw998_4),(b_W HB hw998_5)⟩ (fun hHeld=>?_)
          clear hK K
          refine nR ?_
          refine ppq 9 26 ?_
          refine done_ (done_of HT_.out (by kernel_rfl)) ?_
          by_cases c8:t999=true
          · subst c8
            replace H:=ifT H
            have H':=aM H
            clear H
            try go_wp2
            go_roundg k1
            case measure=>have:=HK1.out;omega
            case rel=>exact⟨(wrap64 (x5_1+1)),TF,H',⟨by have:=HK1.out;omega⟩,⟨TB⟩⟩
          · replace c8:=b_F c8
            subst c8
            replace H:=ifF H
            obtain rfl:=o_I H
            try go_wp2
            go_ret
            exact⟨TE,TB⟩
        · rw[if_neg c4] at H
          have c4b0:decide (x5_1<(l0.length:Int))=false:=decide_eq_false c4
          clear c4
          obtain rfl:=o_I H
          go_wp2
          go_ret
          exact⟨TE,TB⟩
  · rw[if_neg c3] at H
    have c3b0:((l0.length:Int)==(l1.length:Int))=false:=beq_eq_false_iff_ne.mpr c3
    have c3b1:((l0.length:Int) != (l1.length:Int))=true:=bne_iff_ne.mpr c3
    have c3b2:(l0.length==l1.length)=false:=by first|simpa using c3|(simp at c3 ⊢;omega)
    obtain rfl:=o_I H
    go_enter Tryz.func43,Tryz.ntmps43
    go_wp2
    go_ret
    exact⟨TE,TB⟩
def laws_eqDisk.f (k:Nat)(e:List Int)(f:List Int)(g:Int)(h:Int)(i:Int)(j:List (S91))(l:List Int)(m:List Int)(n:Int)(o:Int)(p:Int)(q:List (S91)):Option (Bool):=(laws_eqByteS.f k e l).bind fun a=>(if a=true then ((laws_eqByteS.f k f m).bind fun b=>(if b=true then ((laws_eqRecord.f g h i n o p).bind fun c=>(if c=true then ((laws_eqPutS.f k j q).bind fun d=>(if d=true then (some true) else (some false))) else (some false))) else (some false))) else (some false))
theorem laws_eqDisk.mono :∀c d e f g h i j l m a b k,LeO (laws_eqDisk.f k c d e f g h i j l m a b) (laws_eqDisk.f (k+1) c d e f g h i j l m a b):=by
  intro a0 a1 a2 a3 a4 a5 a6 a7 a8 a9 a10 a11 k;have m0_:=@laws_eqByteS.mono;have m1_:=@laws_eqPutS.mono;unfold laws_eqDisk.f;exact LM
theorem laws_eqDisk.calls {k:Nat}{ax:Option Addr}{az:Nat}{af:List Int}{ao:Option Addr}{aq:Nat}{ad:List Int}{ai:Int}{am:Int}{aj:Int}{ap:Option Addr}{ak:Nat}{aa:List (S91)}{aw:Option Addr}{ay:Nat}{ae:List Int}{ag:Option Addr}{ah:Nat}{ac:List Int}{av:Int}{al:Int}{ar:Int}{au:Option Addr}{an:Nat}{ab:List (S91)}{r:Bool}{w:World}(aG:Kd.C (Kd.int .u8) w ax af.length af)(aD:af.length≤az)(aK:Kd.C (Kd.int .u8) w ao ad.length ad)(aJ:ad.length≤aq)(aH:Kd.C k91 w ap aa.length aa)(aN:aa.length≤ak)(aB:Kd.C (Kd.int .u8) w aw ae.length ae)(aL:ae.length≤ay)(aO:Kd.C (Kd.int .u8) w ag ac.length ac)(aI:ac.length≤ah)(aE:Kd.C k91 w au ab.length ab)(aC:ab.length≤an)(h:laws_eqDisk.f k af ad ai am aj aa ae ac av al ar ab=some r):
  Calls Tryz.prog 13 #[.agg #[.slice ax af.length az,.slice ao ad.length aq,.int .i64 ai,.int .i64 am,.int .i64 aj,.slice ap aa.length ak],.agg #[.slice aw ae.length ay,.slice ag ac.length ah,.int .i64 av,.int .i64 al,.int .i64 ar,.slice au ab.length an]] w fun e w'=>e=.returned (.bool r)∧Below w.heap.size w w':=by
 have huq1:=Tryz.underlying39;have huq2:=Tryz.underlying36;have HRq1:=aM aG;have HCq1:=aM aD;clear aG aD;have HRq2:=aM aK;have HCq2:=aM aJ;clear aK aJ;have HRq3:=aM aH;have HCq3:=aM aN;clear aH aN;have HRq4:=aM aB;have HCq4:=aM aL;clear aB aL;have HRq5:=aM aO;have HCq5:=aM aI;clear aO aI;have HRq6:=aM aE;have HCq6:=aM aC;clear aE aC;have HB:=aM (Below.refl w.heap.size w);have H:=h;clear h;unfold laws_eqDisk.f at H;replace H:=bE H;obtain⟨aA,Aq1,H⟩:=H;go_enter Tryz.func13,Tryz.ntmps13;go_wp2_with (first|(refine g_D 2 ?_;refine gBx 2 #[.slice ax af.length az,.slice ao ad.length aq,.int .i64 ai,.int .i64 am,.int .i64 aj,.slice ap aa.length ak] 39 ?_;intro gbq1 hg wq1 hbox hb;have BKq1:=aM (hbox);have GWq1:=gW HB hg;have GEq1:=gW HB hg;replace HB:=bS HB hb;clear hb hbox hg)|(refine g_D 3 ?_;refine gBx 3 #[.slice aw ae.length ay,.slice ag ac.length ah,.int .i64 av,.int .i64 al,.int .i64 ar,.slice au ab.length an] 39 ?_;intro gbq2 hg wq2 hbox hb;have BKq2:=aM (hbox);have GWq2:=gW HB hg;have GEq2:=gW HB hg;obtain⟨NBq1,NBq2⟩:=nB BKq1 hg;replace BKq1:=mB BKq1 hb;replace HB:=bS HB hb;clear hb hbox hg;obtain⟨hnbq1,hncq1⟩:=oB NBq1;obtain⟨hczq1,hczq2,hczq3,hczq4,hczq5,hczq6⟩:=cz6 BKq1.out;obtain⟨hfzq1,hfzq2,hfzq3,hfzq4,hfzq5,hfzq6⟩:=fz6 BKq1.out;obtain⟨hczq7,hczq8,hczq9,hczq10,hczq11,hczq12⟩:=cz6 BKq2.out;obtain⟨hfzq7,hfzq8,hfzq9,hfzq10,hfzq11,hfzq12⟩:=fz6 BKq2.out)|(refine g_C 41 ?_;refine gL (some 9) Tryz.func41 #[.slice ax af.length az,.slice aw ae.length ay] ?_;(with_reducible refine(laws_eqByteS.calls ?side1 ?side2 ?side3 ?side4 Aq1.out).mono ?_);(case side1=>have X_:=(Kd.C_below HRq1.out HB.out);exact TC);(case side2=>exact HCq1.out);(case side3=>have X_:=(Kd.C_below HRq4.out HB.out);exact TC);(case side4=>exact HCq4.out);rintro e w' ⟨rfl,⟨nd,rfl⟩⟩;refine⟨_,rfl,?_⟩)|(refine g_D 10 ?_;generalize hG_:wpList _ _ _ _ _ _=G_))
 subst hG_
 by_cases cq1:aA=true
 ·subst cq1;replace H:=ifT H;replace H:=bE H;obtain⟨t1003,Aq2,H⟩:=H;obtain⟨hnbq2,hncq2⟩:=oB NBq1;obtain⟨hczq13,hczq14,hczq15,hczq16,hczq17,hczq18⟩:=cz6 BKq1.out;obtain⟨hfzq13,hfzq14,hfzq15,hfzq16,hfzq17,hfzq18⟩:=fz6 BKq1.out;obtain⟨hczq19,hczq20,hczq21,hczq22,hczq23,hczq24⟩:=cz6 BKq2.out;obtain⟨hfzq19,hfzq20,hfzq21,hfzq22,hfzq23,hfzq24⟩:=fz6 BKq2.out
  by_cases cq2:t1003=true
  ·subst cq2;replace H:=ifT H;replace H:=bE H;obtain⟨aF,Aq3,H⟩:=H;go_wp2_with (first|(refine g_C 41 ?_;refine gL (some 15) Tryz.func41 #[.slice ao ad.length aq,.slice ag ac.length ah] ?_;(with_reducible refine(laws_eqByteS.calls ?side1 ?side2 ?side3 ?side4 Aq2.out).mono ?_);(case side1=>exact Zq41_0);(case side2=>exact HCq2.out);(case side3=>exact Zq41_1);(case side4=>exact HCq5.out);rintro e w' ⟨rfl,⟨nd,rfl⟩⟩;refine⟨_,rfl,?_⟩)|(refine g_C 42 ?_;refine gL (some 21) Tryz.func42 #[.agg #[.int .i64 ai,.int .i64 am,.int .i64 aj],.agg #[.int .i64 av,.int .i64 al,.int .i64 ar]] ?_;(with_reducible refine(laws_eqRecord.calls Aq3.out).mono ?_);rintro e wq3 ⟨rfl,hb⟩;refine⟨_,rfl,?_⟩;replace BKq1:=mB BKq1 hb;replace BKq2:=mB BKq2 hb;replace HB:=bS HB hb;clear hb)|(refine g_D 22 ?_;generalize hG_:wpList _ _ _ _ _ _=G_))
   subst hG_
   by_cases cq3:aF=true
   ·subst cq3;replace H:=ifT H;replace H:=bE H;obtain⟨t1005,Aq4,H⟩:=H;obtain⟨hnbq3,hncq3⟩:=oB NBq1;obtain⟨hczq25,hczq26,hczq27,hczq28,hczq29,hczq30⟩:=cz6 BKq1.out;obtain⟨hfzq25,hfzq26,hfzq27,hfzq28,hfzq29,hfzq30⟩:=fz6 BKq1.out;obtain⟨hczq31,hczq32,hczq33,hczq34,hczq35,hczq36⟩:=cz6 BKq2.out;obtain⟨hfzq31,hfzq32,hfzq33,hfzq34,hfzq35,hfzq36⟩:=fz6 BKq2.out
    by_cases cq4:t1005=true
    ·subst cq4;replace H:=ifT H;obtain rfl:=o_I H;go_wp2_with (first|(refine g_C 43 ?_;refine gL (some 27) Tryz.func43 #[.slice ap aa.length ak,.slice au ab.length an] ?_;(with_reducible refine(laws_eqPutS.calls ?side1 ?side2 ?side3 ?side4 Aq4.out).mono ?_);(case side1=>exact Zq41_2);(case side2=>exact HCq3.out);(case side3=>exact Zq41_3);(case side4=>exact HCq6.out);rintro e wq4 ⟨rfl,hb⟩;refine⟨_,rfl,?_⟩;replace BKq1:=mB BKq1 hb;replace BKq2:=mB BKq2 hb;replace HB:=bS HB hb;clear hb))
     go_ret
     exact⟨TE,TB⟩
    ·replace cq4:=b_F cq4;subst cq4;replace H:=ifF H;obtain rfl:=o_I H;go_wp2_with (first|(refine g_C 43 ?_;refine gL (some 27) Tryz.func43 #[.slice ap aa.length ak,.slice au ab.length an] ?_;(with_reducible refine(laws_eqPutS.calls ?side1 ?side2 ?side3 ?side4 Aq4.out).mono ?_);(case side1=>exact Zq41_2);(case side2=>exact HCq3.out);(case side3=>exact Zq41_3);(case side4=>exact HCq6.out);rintro e wq4 ⟨rfl,hb⟩;refine⟨_,rfl,?_⟩;replace BKq1:=mB BKq1 hb;replace BKq2:=mB BKq2 hb;replace HB:=bS HB hb;clear hb))
     go_ret
     exact⟨TE,TB⟩
   ·replace cq3:=b_F cq3;subst cq3;replace H:=ifF H;obtain rfl:=o_I H;go_wp2
    go_ret
    exact⟨TE,TB⟩
  ·replace cq2:=b_F cq2;subst cq2;replace H:=ifF H;obtain rfl:=o_I H;go_wp2_with (first|(refine g_C 41 ?_;refine gL (some 15) Tryz.func41 #[.slice ao ad.length aq,.slice ag ac.length ah] ?_;(with_reducible refine(laws_eqByteS.calls ?side1 ?side2 ?side3 ?side4 Aq2.out).mono ?_);(case side1=>exact Zq41_0);(case side2=>exact HCq2.out);(case side3=>exact Zq41_1);(case side4=>exact HCq5.out);rintro e w' ⟨rfl,⟨nd,rfl⟩⟩;refine⟨_,rfl,?_⟩))
   go_ret
   exact⟨TE,TB⟩
 ·replace cq1:=b_F cq1;subst cq1;replace H:=ifF H;obtain rfl:=o_I H;go_wp2
  go_ret
  exact⟨TE,TB⟩
def laws_eqSum.f (a:Int)(b:Int)(c:Int)(d:Int):Option (Bool):=if a=c then (if b=d then (some true) else (some false)) else (some false)
theorem laws_eqSum.calls {a0_0:Int}{a0_1:Int}{a1_0:Int}{a1_1:Int}{r:Bool}{w:World}(h:laws_eqSum.f a0_0 a0_1 a1_0 a1_1=some r):
    Calls Tryz.prog 77 #[.agg #[.int .i64 a0_0,.int .i64 a0_1],.agg #[.int .i64 a1_0,.int .i64 a1_1]] w fun e w'=>e=.returned (.bool r)∧Below w.heap.size w w':=by
  have hu96:=Tryz.underlying96
  have HB:=aM (Below.refl w.heap.size w)
  have H:=h
  clear h
  unfold laws_eqSum.f at H
  by_cases c3:a0_0=a1_0
  · rw[if_pos c3] at H
    have c3b0:(a0_0==a1_0)=true:=beq_iff_eq.mpr c3
    have c3b1:(a0_0 != a1_0)=false:=bne_eq_false_iff_eq.mpr c3
    clear c3
    by_cases c4:a0_1=a1_1
    · rw[if_pos c4] at H
      have c4b0:(a0_1==a1_1)=true:=beq_iff_eq.mpr c4
      have c4b1:(a0_1 != a1_1)=false:=bne_eq_false_iff_eq.mpr c4
      clear c4
      obtain rfl:=o_I H
      go_enter Tryz.func77,Tryz.ntmps77
      go_wp2_with (first|(refine g_D 2 ?_;refine gBx 2 #[.int .i64 a0_0,.int .i64 a0_1] 96 ?_;intro gb1006 hg w5 hbox hb;have BK1006:=aM (hbox);have GW1006:=gW HB hg;have GE1006:=gW HB hg;replace HB:=bS HB hb;clear hb hbox hg)|(refine g_D 3 ?_;refine gBx 3 #[.int .i64 a1_0,.int .i64 a1_1] 96 ?_;intro gb1007 hg w6 hbox hb;have BK1007:=aM (hbox);have GW1007:=gW HB hg;have GE1007:=gW HB hg;obtain⟨NB1006_1007,NB1007_1006⟩:=nB BK1006 hg;replace BK1006:=mB BK1006 hb;replace HB:=bS HB hb;clear hb hbox hg;obtain⟨hnb7,hnc7⟩:=oB NB1006_1007;obtain⟨hcz8_0,hcz8_1⟩:=cz2 BK1006.out;obtain⟨hfz8_0,hfz8_1⟩:=fz2 BK1006.out;obtain⟨hcz9_0,hcz9_1⟩:=cz2 BK1007.out;obtain⟨hfz9_0,hfz9_1⟩:=fz2 BK1007.out))
      go_ret
      exact⟨TE,TB⟩
    · rw[if_neg c4] at H
      have c4b0:(a0_1==a1_1)=false:=beq_eq_false_iff_ne.mpr c4
      have c4b1:(a0_1 != a1_1)=true:=bne_iff_ne.mpr c4
      obtain rfl:=o_I H
      go_enter Tryz.func77,Tryz.ntmps77
      go_wp2_with (first|(refine g_D 2 ?_;refine gBx 2 #[.int .i64 a0_0,.int .i64 a0_1] 96 ?_;intro gb1006 hg w10 hbox hb;have BK1006:=aM (hbox);have GW1006:=gW HB hg;have GE1006:=gW HB hg;replace HB:=bS HB hb;clear hb hbox hg)|(refine g_D 3 ?_;refine gBx 3 #[.int .i64 a1_0,.int .i64 a1_1] 96 ?_;intro gb1007 hg w11 hbox hb;have BK1007:=aM (hbox);have GW1007:=gW HB hg;have GE1007:=gW HB hg;obtain⟨NB1006_1007,NB1007_1006⟩:=nB BK1006 hg;replace BK1006:=mB BK1006 hb;replace HB:=bS HB hb;clear hb hbox hg;obtain⟨hnb12,hnc12⟩:=oB NB1006_1007;obtain⟨hcz13_0,hcz13_1⟩:=cz2 BK1006.out;obtain⟨hfz13_0,hfz13_1⟩:=fz2 BK1006.out;obtain⟨hcz14_0,hcz14_1⟩:=cz2 BK1007.out;obtain⟨hfz14_0,hfz14_1⟩:=fz2 BK1007.out))
      go_ret
      exact⟨TE,TB⟩
  · rw[if_neg c3] at H
    have c3b0:(a0_0==a1_0)=false:=beq_eq_false_iff_ne.mpr c3
    have c3b1:(a0_0 != a1_0)=true:=bne_iff_ne.mpr c3
    obtain rfl:=o_I H
    go_enter Tryz.func77,Tryz.ntmps77
    go_wp2_with (first|(refine g_D 2 ?_;refine gBx 2 #[.int .i64 a0_0,.int .i64 a0_1] 96 ?_;intro gb1006 hg w15 hbox hb;have BK1006:=aM (hbox);have GW1006:=gW HB hg;have GE1006:=gW HB hg;replace HB:=bS HB hb;clear hb hbox hg)|(refine g_D 3 ?_;refine gBx 3 #[.int .i64 a1_0,.int .i64 a1_1] 96 ?_;intro gb1007 hg w16 hbox hb;have BK1007:=aM (hbox);have GW1007:=gW HB hg;have GE1007:=gW HB hg;obtain⟨NB1006_1007,NB1007_1006⟩:=nB BK1006 hg;replace BK1006:=mB BK1006 hb;replace HB:=bS HB hb;clear hb hbox hg;obtain⟨hnb17,hnc17⟩:=oB NB1006_1007;obtain⟨hcz18_0,hcz18_1⟩:=cz2 BK1006.out;obtain⟨hfz18_0,hfz18_1⟩:=fz2 BK1006.out;obtain⟨hcz19_0,hcz19_1⟩:=cz2 BK1007.out;obtain⟨hfz19_0,hfz19_1⟩:=fz2 BK1007.out))
    go_ret
    exact⟨TE,TB⟩
def laws_eqSumS.l0 :Nat→List (S96)→List (S96)→Int→Option (Bool)
  |0,_,_,_=>none
  |k+1,b,c,a=>if a<(b.length:Int) then (if 0≤a then (if a<(c.length:Int) then ((laws_eqSum.f ((rd_T96 b a).f0) ((rd_T96 b a).f1) ((rd_T96 c a).f0) ((rd_T96 c a).f1)).bind fun d=>(if d=true then (laws_eqSumS.l0 k b c (wrap64 (a+1))) else (some false))) else (none)) else (none)) else (some true)
def laws_eqSumS.f (k:Nat)(a:List (S96))(b:List (S96)):Option (Bool):=if (a.length:Int)=(b.length:Int) then (laws_eqSumS.l0 k a b 0) else (some false)
theorem laws_eqSumS.mono_l :∀k,(∀a b c,LeO (laws_eqSumS.l0 k a b c) (laws_eqSumS.l0 (k+1) a b c))
  |0=>fun _ _ _ r h=>by simp [laws_eqSumS.l0] at h
  | k+1=>by
    have ih0:=laws_eqSumS.mono_l k
    · intro y0 y1 y2
      unfold laws_eqSumS.l0
      exact LM
theorem laws_eqSumS.mono :∀a b k,LeO (laws_eqSumS.f k a b) (laws_eqSumS.f (k+1) a b):=by
  intro a0 a1 k;have ih0:=laws_eqSumS.mono_l k;unfold laws_eqSumS.f;exact LM
def laws_eqSumS.T6 :Bool×List (List Nat×List Nat):=(true,[([],[]),([],[]),([0,1],[0,1]),([2],[2]),([],[]),([],[]),([4,5],[4,5]),([6],[6]),([3,7],[3,7]),([8],[8])])
def laws_eqSumS.B6 :List Nat:=[0,0,3,7,0,0,48,112,255,511]
theorem laws_eqSumS.tab6 :rtab .any (opsOf Tryz.f44 6)=laws_eqSumS.T6:=by kernel_rfl
theorem laws_eqSumS.bits6 :waitsOk laws_eqSumS.T6.2 laws_eqSumS.B6=true:=by kernel_rfl
theorem laws_eqSumS.calls {k:Nat}{A0:Option Addr}{c0:Nat}{l0:List (S96)}{A1:Option Addr}{c1:Nat}{l1:List (S96)}{r:Bool}{w:World}(hr0:Kd.C k96 w A0 l0.length l0)(hc0:l0.length≤c0)(hr1:Kd.C k96 w A1 l1.length l1)(hc1:l1.length≤c1)(h:laws_eqSumS.f k l0 l1=some r):
    Calls Tryz.prog 44 #[.slice A0 l0.length c0,.slice A1 l1.length c1] w fun e w'=>e=.returned (.bool r)∧Below w.heap.size w w':=by
  have hu96:=Tryz.underlying96
  have HR0:=aM hr0
  have HC0:=aM hc0
  clear hr0 hc0
  have HR1:=aM hr1
  have HC1:=aM hc1
  clear hr1 hc1
  have HB:=aM (Below.refl w.heap.size w)
  have H:=h
  clear h
  unfold laws_eqSumS.f at H
  by_cases c3:(l0.length:Int)=(l1.length:Int)
  · rw[if_pos c3] at H
    have c3b0:((l0.length:Int)==(l1.length:Int))=true:=beq_iff_eq.mpr c3
    have c3b1:((l0.length:Int) != (l1.length:Int))=false:=bne_eq_false_iff_eq.mpr c3
    have c3b2:(l0.length==l1.length)=true:=by first|simpa using c3|(simp at c3 ⊢;omega)
    clear c3
    have H':=aM H
    clear H
    go_enter Tryz.func44,Tryz.ntmps44
    go_wp2
    go_loopg [5] k (fun kq v5 w'=>∃(x5_1:Int),v5=.int .i64 x5_1∧Aside0 (laws_eqSumS.l0 kq l0 l1 x5_1=some r)∧Aside0 (kq≤k)∧Aside0 (Below w.heap.size w w'))
    case atStart=>exact⟨(0),TF,H',⟨Nat.le_refl _⟩,⟨TB⟩⟩
    case round=>
      clear H'
      try clear c1
      try clear p2
      try clear c3
      try clear c3b0
      try clear c3b1
      try clear c3b2
      obtain⟨x5_1,rfl,HA,HK1,HB⟩:=hrel
      cases gk with
      |zero=>exact absurd HA.out (by simp [laws_eqSumS.l0])
      | succ k1=>
        have H:=HA.out
        clear HA
        simp only[laws_eqSumS.l0] at H
        by_cases c4:x5_1<(l0.length:Int)
        · rw[if_pos c4] at H
          have c4b0:decide (x5_1<(l0.length:Int))=true:=decide_eq_true c4
          clear c4
          replace H:=ifN H
          obtain⟨c5,H⟩:=H
          have c5b0:decide (0≤x5_1)=true:=decide_eq_true c5
          clear c5
          replace H:=ifN H
          obtain⟨c6,H⟩:=H
          have c6b0:decide (x5_1<(l1.length:Int))=true:=decide_eq_true c6
          clear c6
          replace H:=bE H
          obtain⟨t1010,A7,H⟩:=H
          try go_wp2
          replace HB:=aM (below_drew1 HB.out)
          have p1008:0≤(x5_1:Int):=DT
          have q1008:x5_1<(l0.length:Int):=DT
          obtain⟨ad1008,e1008,hx1008_0,hx1008_1⟩:=at_T96 HR0.out x5_1 p1008 q1008
          have hw1008_1:=hx1008_1
          have hw1008_0:=hx1008_0
          cases e1008
          replace hx1008_0:=(HB.out.cell (World.block_lt_of_cell? w _ hx1008_0)).trans hx1008_0
          replace hx1008_1:=(HB.out.cell (World.block_lt_of_cell? w _ hx1008_1)).trans hx1008_1
          replace p1008:=eq_true p1008
          replace q1008:=eq_true q1008
          have p1009:0≤(x5_1:Int):=DT
          have q1009:x5_1<(l1.length:Int):=DT
          obtain⟨ad1009,e1009,hx1009_0,hx1009_1⟩:=at_T96 HR1.out x5_1 p1009 q1009
          have hw1009_1:=hx1009_1
          have hw1009_0:=hx1009_0
          cases e1009
          replace hx1009_0:=(HB.out.cell (World.block_lt_of_cell? w _ hx1009_0)).trans hx1009_0
          replace hx1009_1:=(HB.out.cell (World.block_lt_of_cell? w _ hx1009_1)).trans hx1009_1
          replace p1009:=eq_true p1009
          replace q1009:=eq_true q1009
          refine start_ (n:=10) (S:=fun w'=>w'.cell? (ad1008.add ((x5_1).toNat * 2))=some (.int .i64 ((rd_T96 l0 x5_1).f0))∧w'.cell? ⟨(ad1008.add ((x5_1).toNat * 2)).block,(ad1008.add ((x5_1).toNat * 2)).off+1,none⟩=some (.int .i64 ((rd_T96 l0 x5_1).f1))∧w'.cell? (ad1009.add ((x5_1).toNat * 2))=some (.int .i64 ((rd_T96 l1 x5_1).f0))∧w'.cell? ⟨(ad1009.add ((x5_1).toNat * 2)).block,(ad1009.add ((x5_1).toNat * 2)).off+1,none⟩=some (.int .i64 ((rd_T96 l1 x5_1).f1))) (ds:=[]) (Array.replicate 10 false) (by kernel_rfl) rfl rfl ⟨(b_W HB hw1008_0),(b_W HB hw1008_1),(b_W HB hw1009_0),(b_W HB hw1009_1)⟩ (fun hHeld=>?_);refine with_tabW laws_eqSumS.tab6 laws_eqSumS.bits6 (fun HT_ HW_=>?_)
          generalize wr.drew=w9 at HB hx1008_0 hx1008_1 hx1009_0 hx1009_1 hHeld ⊢
          refine ppq 0 17 ?_
          refine ppq 1 18 ?_
          refine ppq 2 19 ?_
          refine ppq 4 21 ?_
          refine ppq 5 22 ?_
          refine ppq 6 23 ?_
          refine ptq 3 20 ?_
          refine ptq 7 24 ?_
          refine poq 8 25 (fun K hK=>?_)
          refine gG Tryz.func77 #[.agg #[.int .i64 ((rd_T96 l0 x5_1).f0),.int .i64 ((rd_T96 l0 x5_1).f1)],.agg #[.int .i64 ((rd_T96 l1 x5_1).f0),.int .i64 ((rd_T96 l1 x5_1).f1)]] ?_
          with_reducible refine(laws_eqSum.calls A7.out).mono ?_
          rintro e w10 ⟨rfl,hb⟩
          refine⟨_,rfl,?_⟩
          replace HB:=bS HB hb
          (try clear hb)
          (try clear hb2)
          (try clear hk)
          (try clear hi)
          refine hK.out _ _ ⟨(b_W HB hw1008_0),(b_W HB hw1008_1),(b_W HB hw1009_0),(b_W HB hw1009_1)⟩ (fun hHeld=>?_)
          clear hK K
          refine nR ?_
          refine ppq 9 26 ?_
          refine done_ (done_of HT_.out (by kernel_rfl)) ?_
          by_cases c8:t1010=true
          · subst c8
            replace H:=ifT H
            have H':=aM H
            clear H
            try go_wp2
            go_roundg k1
            case measure=>have:=HK1.out;omega
            case rel=>exact⟨(wrap64 (x5_1+1)),TF,H',⟨by have:=HK1.out;omega⟩,⟨TB⟩⟩
          · replace c8:=b_F c8
            subst c8
            replace H:=ifF H
            obtain rfl:=o_I H
            try go_wp2
            go_ret
            exact⟨TE,TB⟩
        · rw[if_neg c4] at H
          have c4b0:decide (x5_1<(l0.length:Int))=false:=decide_eq_false c4
          clear c4
          obtain rfl:=o_I H
          go_wp2
          go_ret
          exact⟨TE,TB⟩
  · rw[if_neg c3] at H
    have c3b0:((l0.length:Int)==(l1.length:Int))=false:=beq_eq_false_iff_ne.mpr c3
    have c3b1:((l0.length:Int) != (l1.length:Int))=true:=bne_iff_ne.mpr c3
    have c3b2:(l0.length==l1.length)=false:=by first|simpa using c3|(simp at c3 ⊢;omega)
    obtain rfl:=o_I H
    go_enter Tryz.func44,Tryz.ntmps44
    go_wp2
    go_ret
    exact⟨TE,TB⟩
def laws_eqManifest.f (k:Nat)(b:Int)(c:Int)(d:Int)(e:List (S96))(f:Int)(g:Int)(h:Int)(i:List (S96)):Option (Bool):=if b=f then (if c=g then (if d=h then ((laws_eqSumS.f k e i).bind fun a=>(if a=true then (some true) else (some false))) else (some false)) else (some false)) else (some false)
theorem laws_eqManifest.mono :∀a b c d e f g h k,LeO (laws_eqManifest.f k a b c d e f g h) (laws_eqManifest.f (k+1) a b c d e f g h):=by
  intro a0 a1 a2 a3 a4 a5 a6 a7 k;have m0_:=@laws_eqSumS.mono;unfold laws_eqManifest.f;exact LM
theorem laws_eqManifest.calls {k:Nat}{a0_0:Int}{a0_1:Int}{a0_2:Int}{A0_3:Option Addr}{c0_3:Nat}{l0_3:List (S96)}{a1_0:Int}{a1_1:Int}{a1_2:Int}{A1_3:Option Addr}{c1_3:Nat}{l1_3:List (S96)}{r:Bool}{w:World}(hr0_3:Kd.C k96 w A0_3 l0_3.length l0_3)(hc0_3:l0_3.length≤c0_3)(hr1_3:Kd.C k96 w A1_3 l1_3.length l1_3)(hc1_3:l1_3.length≤c1_3)(h:laws_eqManifest.f k a0_0 a0_1 a0_2 l0_3 a1_0 a1_1 a1_2 l1_3=some r):
    Calls Tryz.prog 14 #[.agg #[.int .i64 a0_0,.int .i64 a0_1,.int .i64 a0_2,.slice A0_3 l0_3.length c0_3],.agg #[.int .i64 a1_0,.int .i64 a1_1,.int .i64 a1_2,.slice A1_3 l1_3.length c1_3]] w fun e w'=>e=.returned (.bool r)∧Below w.heap.size w w':=by
  have hu45:=Tryz.underlying45
  have HR0_3:=aM hr0_3
  have HC0_3:=aM hc0_3
  clear hr0_3 hc0_3
  have HR1_3:=aM hr1_3
  have HC1_3:=aM hc1_3
  clear hr1_3 hc1_3
  have HB:=aM (Below.refl w.heap.size w)
  have H:=h
  clear h
  unfold laws_eqManifest.f at H
  by_cases c3:a0_0=a1_0
  · rw[if_pos c3] at H
    have c3b0:(a0_0==a1_0)=true:=beq_iff_eq.mpr c3
    have c3b1:(a0_0 != a1_0)=false:=bne_eq_false_iff_eq.mpr c3
    clear c3
    by_cases c4:a0_1=a1_1
    · rw[if_pos c4] at H
      have c4b0:(a0_1==a1_1)=true:=beq_iff_eq.mpr c4
      have c4b1:(a0_1 != a1_1)=false:=bne_eq_false_iff_eq.mpr c4
      clear c4
      by_cases c5:a0_2=a1_2
      · rw[if_pos c5] at H
        have c5b0:(a0_2==a1_2)=true:=beq_iff_eq.mpr c5
        have c5b1:(a0_2 != a1_2)=false:=bne_eq_false_iff_eq.mpr c5
        clear c5
        replace H:=bE H
        obtain⟨t1013,A6,H⟩:=H
        go_enter Tryz.func14,Tryz.ntmps14
        go_wp2_with (first|(refine g_D 2 ?_;refine gBx 2 #[.int .i64 a0_0,.int .i64 a0_1,.int .i64 a0_2,.slice A0_3 l0_3.length c0_3] 45 ?_;intro gb1011 hg w8 hbox hb;have BK1011:=aM (hbox);have GW1011:=gW HB hg;have GE1011:=gW HB hg;replace HB:=bS HB hb;clear hb hbox hg)|(refine g_D 3 ?_;refine gBx 3 #[.int .i64 a1_0,.int .i64 a1_1,.int .i64 a1_2,.slice A1_3 l1_3.length c1_3] 45 ?_;intro gb1012 hg w9 hbox hb;have BK1012:=aM (hbox);have GW1012:=gW HB hg;have GE1012:=gW HB hg;obtain⟨NB1011_1012,NB1012_1011⟩:=nB BK1011 hg;replace BK1011:=mB BK1011 hb;replace HB:=bS HB hb;clear hb hbox hg;obtain⟨hnb10,hnc10⟩:=oB NB1011_1012;obtain⟨hcz11_0,hcz11_1,hcz11_2,hcz11_3⟩:=cz4 BK1011.out;obtain⟨hfz11_0,hfz11_1,hfz11_2,hfz11_3⟩:=fz4 BK1011.out;obtain⟨hcz12_0,hcz12_1,hcz12_2,hcz12_3⟩:=cz4 BK1012.out;obtain⟨hfz12_0,hfz12_1,hfz12_2,hfz12_3⟩:=fz4 BK1012.out)|(refine g_C 44 ?_;refine gL (some 24) Tryz.func44 #[.slice A0_3 l0_3.length c0_3,.slice A1_3 l1_3.length c1_3] ?_;(with_reducible refine(laws_eqSumS.calls ?side1 ?side2 ?side3 ?side4 A6.out).mono ?_);(case side1=>have X_:=(Kd.C_below HR0_3.out HB.out);exact TC);(case side2=>exact HC0_3.out);(case side3=>have X_:=(Kd.C_below HR1_3.out HB.out);exact TC);(case side4=>exact HC1_3.out);rintro e w13 ⟨rfl,hb⟩;refine⟨_,rfl,?_⟩;replace BK1011:=mB BK1011 hb;replace BK1012:=mB BK1012 hb;replace HB:=bS HB hb;clear hb)|(refine g_D 25 ?_;generalize hG_:wpList _ _ _ _ _ _=G_))
        subst hG_
        by_cases c14:t1013=true
        · subst c14
          replace H:=ifT H
          obtain rfl:=o_I H
          go_wp2
          go_ret
          exact⟨TE,TB⟩
        · replace c14:=b_F c14
          subst c14
          replace H:=ifF H
          obtain rfl:=o_I H
          go_wp2
          go_ret
          exact⟨TE,TB⟩
      · rw[if_neg c5] at H
        have c5b0:(a0_2==a1_2)=false:=beq_eq_false_iff_ne.mpr c5
        have c5b1:(a0_2 != a1_2)=true:=bne_iff_ne.mpr c5
        obtain rfl:=o_I H
        go_enter Tryz.func14,Tryz.ntmps14
        go_wp2_with (first|(refine g_D 2 ?_;refine gBx 2 #[.int .i64 a0_0,.int .i64 a0_1,.int .i64 a0_2,.slice A0_3 l0_3.length c0_3] 45 ?_;intro gb1011 hg w15 hbox hb;have BK1011:=aM (hbox);have GW1011:=gW HB hg;have GE1011:=gW HB hg;replace HB:=bS HB hb;clear hb hbox hg)|(refine g_D 3 ?_;refine gBx 3 #[.int .i64 a1_0,.int .i64 a1_1,.int .i64 a1_2,.slice A1_3 l1_3.length c1_3] 45 ?_;intro gb1012 hg w16 hbox hb;have BK1012:=aM (hbox);have GW1012:=gW HB hg;have GE1012:=gW HB hg;obtain⟨NB1011_1012,NB1012_1011⟩:=nB BK1011 hg;replace BK1011:=mB BK1011 hb;replace HB:=bS HB hb;clear hb hbox hg;obtain⟨hnb17,hnc17⟩:=oB NB1011_1012;obtain⟨hcz18_0,hcz18_1,hcz18_2,hcz18_3⟩:=cz4 BK1011.out;obtain⟨hfz18_0,hfz18_1,hfz18_2,hfz18_3⟩:=fz4 BK1011.out;obtain⟨hcz19_0,hcz19_1,hcz19_2,hcz19_3⟩:=cz4 BK1012.out;obtain⟨hfz19_0,hfz19_1,hfz19_2,hfz19_3⟩:=fz4 BK1012.out))
        go_ret
        exact⟨TE,TB⟩
    · rw[if_neg c4] at H
      have c4b0:(a0_1==a1_1)=false:=beq_eq_false_iff_ne.mpr c4
      have c4b1:(a0_1 != a1_1)=true:=bne_iff_ne.mpr c4
      obtain rfl:=o_I H
      go_enter Tryz.func14,Tryz.ntmps14
      go_wp2_with (first|(refine g_D 2 ?_;refine gBx 2 #[.int .i64 a0_0,.int .i64 a0_1,.int .i64 a0_2,.slice A0_3 l0_3.length c0_3] 45 ?_;intro gb1011 hg w20 hbox hb;have BK1011:=aM (hbox);have GW1011:=gW HB hg;have GE1011:=gW HB hg;replace HB:=bS HB hb;clear hb hbox hg)|(refine g_D 3 ?_;refine gBx 3 #[.int .i64 a1_0,.int .i64 a1_1,.int .i64 a1_2,.slice A1_3 l1_3.length c1_3] 45 ?_;intro gb1012 hg w21 hbox hb;have BK1012:=aM (hbox);have GW1012:=gW HB hg;have GE1012:=gW HB hg;obtain⟨NB1011_1012,NB1012_1011⟩:=nB BK1011 hg;replace BK1011:=mB BK1011 hb;replace HB:=bS HB hb;clear hb hbox hg;obtain⟨hnb22,hnc22⟩:=oB NB1011_1012;obtain⟨hcz23_0,hcz23_1,hcz23_2,hcz23_3⟩:=cz4 BK1011.out;obtain⟨hfz23_0,hfz23_1,hfz23_2,hfz23_3⟩:=fz4 BK1011.out;obtain⟨hcz24_0,hcz24_1,hcz24_2,hcz24_3⟩:=cz4 BK1012.out;obtain⟨hfz24_0,hfz24_1,hfz24_2,hfz24_3⟩:=fz4 BK1012.out))
      go_ret
      exact⟨TE,TB⟩
  · rw[if_neg c3] at H
    have c3b0:(a0_0==a1_0)=false:=beq_eq_false_iff_ne.mpr c3
    have c3b1:(a0_0 != a1_0)=true:=bne_iff_ne.mpr c3
    obtain rfl:=o_I H
    go_enter Tryz.func14,Tryz.ntmps14
    go_wp2_with (first|(refine g_D 2 ?_;refine gBx 2 #[.int .i64 a0_0,.int .i64 a0_1,.int .i64 a0_2,.slice A0_3 l0_3.length c0_3] 45 ?_;intro gb1011 hg w25 hbox hb;have BK1011:=aM (hbox);have GW1011:=gW HB hg;have GE1011:=gW HB hg;replace HB:=bS HB hb;clear hb hbox hg)|(refine g_D 3 ?_;refine gBx 3 #[.int .i64 a1_0,.int .i64 a1_1,.int .i64 a1_2,.slice A1_3 l1_3.length c1_3] 45 ?_;intro gb1012 hg w26 hbox hb;have BK1012:=aM (hbox);have GW1012:=gW HB hg;have GE1012:=gW HB hg;obtain⟨NB1011_1012,NB1012_1011⟩:=nB BK1011 hg;replace BK1011:=mB BK1011 hb;replace HB:=bS HB hb;clear hb hbox hg;obtain⟨hnb27,hnc27⟩:=oB NB1011_1012;obtain⟨hcz28_0,hcz28_1,hcz28_2,hcz28_3⟩:=cz4 BK1011.out;obtain⟨hfz28_0,hfz28_1,hfz28_2,hfz28_3⟩:=fz4 BK1011.out;obtain⟨hcz29_0,hcz29_1,hcz29_2,hcz29_3⟩:=cz4 BK1012.out;obtain⟨hfz29_0,hfz29_1,hfz29_2,hfz29_3⟩:=fz4 BK1012.out))
    go_ret
    exact⟨TE,TB⟩
def laws_eqBuild.f (k:Nat)(b:Int)(c:List Int)(d:Int)(e:List Int):Option (Bool):=if b=d then ((laws_eqByteS.f k c e).bind fun a=>(if a=true then (some true) else (some false))) else (some false)
theorem laws_eqBuild.mono :∀a b c d k,LeO (laws_eqBuild.f k a b c d) (laws_eqBuild.f (k+1) a b c d):=by
  intro a0 a1 a2 a3 k;have m0_:=@laws_eqByteS.mono;unfold laws_eqBuild.f;exact LM
theorem laws_eqBuild.calls {k:Nat}{ac:Int}{ah:Option Addr}{ag:Nat}{aa:List Int}{ab:Int}{ae:Option Addr}{af:Nat}{ad:List Int}{r:Bool}{w:World}(ak:Kd.C (Kd.int .u8) w ah aa.length aa)(aj:aa.length≤ag)(al:Kd.C (Kd.int .u8) w ae ad.length ad)(ai:ad.length≤af)(h:laws_eqBuild.f k ac aa ab ad=some r):
  Calls Tryz.prog 15 #[.agg #[.int .i64 ac,.slice ah aa.length ag],.agg #[.int .i64 ab,.slice ae ad.length af]] w fun e w'=>e=.returned (.bool r)∧Below w.heap.size w w':=by
 have huq1:=Tryz.underlying47;have HRq1:=aM ak;have HCq1:=aM aj;clear ak aj;have HRq2:=aM al;have HCq2:=aM ai;clear al ai;have HB:=aM (Below.refl w.heap.size w);have H:=h;clear h;unfold laws_eqBuild.f at H
 by_cases c3:ac=ab
 ·rw[if_pos c3] at H;have c3b0:(ac==ab)=true:=beq_iff_eq.mpr c3;have c3b1:(ac != ab)=false:=bne_eq_false_iff_eq.mpr c3;clear c3;replace H:=bE H;obtain⟨am,Aq1,H⟩:=H;go_enter Tryz.func15,Tryz.ntmps15;go_wp2_with (first|(refine g_D 2 ?_;refine gBx 2 #[.int .i64 ac,.slice ah aa.length ag] 47 ?_;intro gbq1 hg w6 hbox hb;have BKq1:=aM (hbox);have GWq1:=gW HB hg;have GEq1:=gW HB hg;replace HB:=bS HB hb;clear hb hbox hg)|(refine g_D 3 ?_;refine gBx 3 #[.int .i64 ab,.slice ae ad.length af] 47 ?_;intro gbq2 hg wq1 hbox hb;have BKq2:=aM (hbox);have GWq2:=gW HB hg;have GEq2:=gW HB hg;obtain⟨NBq1,NBq2⟩:=nB BKq1 hg;replace BKq1:=mB BKq1 hb;replace HB:=bS HB hb;clear hb hbox hg;obtain⟨hnbq1,hncq1⟩:=oB NBq1;obtain⟨hcz9_0,hcz9_1⟩:=cz2 BKq1.out;obtain⟨hfz9_0,hfz9_1⟩:=fz2 BKq1.out;obtain⟨hczq1,hczq2⟩:=cz2 BKq2.out;obtain⟨hfzq1,hfzq2⟩:=fz2 BKq2.out)|(refine g_C 41 ?_;refine gL (some 14) Tryz.func41 #[.slice ah aa.length ag,.slice ae ad.length af] ?_;(with_reducible refine(laws_eqByteS.calls ?side1 ?side2 ?side3 ?side4 Aq1.out).mono ?_);(case side1=>have X_:=(Kd.C_below HRq1.out HB.out);exact TC);(case side2=>exact HCq1.out);(case side3=>have X_:=(Kd.C_below HRq2.out HB.out);exact TC);(case side4=>exact HCq2.out);rintro e w' ⟨rfl,⟨nd,rfl⟩⟩;refine⟨_,rfl,?_⟩)|(refine g_D 15 ?_;generalize hG_:wpList _ _ _ _ _ _=G_))
  subst hG_
  by_cases cq1:am=true
  ·subst cq1;replace H:=ifT H;obtain rfl:=o_I H;go_wp2
   go_ret
   exact⟨TE,TB⟩
  ·replace cq1:=b_F cq1;subst cq1;replace H:=ifF H;obtain rfl:=o_I H;go_wp2
   go_ret
   exact⟨TE,TB⟩
 ·rw[if_neg c3] at H;have c3b0:(ac==ab)=false:=beq_eq_false_iff_ne.mpr c3;have c3b1:(ac != ab)=true:=bne_iff_ne.mpr c3;obtain rfl:=o_I H;go_enter Tryz.func15,Tryz.ntmps15;go_wp2_with (first|(refine g_D 2 ?_;refine gBx 2 #[.int .i64 ac,.slice ah aa.length ag] 47 ?_;intro gbq1 hg w12 hbox hb;have BKq1:=aM (hbox);have GWq1:=gW HB hg;have GEq1:=gW HB hg;replace HB:=bS HB hb;clear hb hbox hg)|(refine g_D 3 ?_;refine gBx 3 #[.int .i64 ab,.slice ae ad.length af] 47 ?_;intro gbq2 hg w13 hbox hb;have BKq2:=aM (hbox);have GWq2:=gW HB hg;have GEq2:=gW HB hg;obtain⟨NBq1,NBq2⟩:=nB BKq1 hg;replace BKq1:=mB BKq1 hb;replace HB:=bS HB hb;clear hb hbox hg;obtain⟨hnbq1,hncq1⟩:=oB NBq1;obtain⟨hczq1,hczq2⟩:=cz2 BKq1.out;obtain⟨hfzq1,hfzq2⟩:=fz2 BKq1.out;obtain⟨hczq3,hczq4⟩:=cz2 BKq2.out;obtain⟨hfzq3,hfzq4⟩:=fz2 BKq2.out))
  go_ret
  exact⟨TE,TB⟩
end Go.Proofs.YtjgmkkogmfogbaaGreat.Q
