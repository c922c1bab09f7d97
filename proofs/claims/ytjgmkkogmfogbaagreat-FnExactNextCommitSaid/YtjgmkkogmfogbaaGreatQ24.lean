/- Functions of the program as plain Lean functions, and that a call of each comes to what its function tells. -/
import Derived.Test.YtjgmkkogmfogbaaGreatQ5
set_option maxHeartbeats 40000000
set_option maxRecDepth 100000
namespace Go.Proofs.YtjgmkkogmfogbaaGreat.Q
open Go.RowKit Go.Proofs.YtjgmkkogmfogbaaGreatW.PrintWords Go.Proofs.YtjgmkkogmfogbaaGreatW.PrintLast Go.Proofs.YtjgmkkogmfogbaaGreatW.PrintMore
attribute [local go_sem] min2_int min_two
set_option linter.unusedVariables false
set_option linter.unusedSimpArgs false
def laws_toByteS.l0 :Nat→List Int→List Int→Int→Option (List Int)
  |0,_,_,_=>none
  |k+1,x0,x3,x4=>if x4<(x0.length:Int) then (if 0≤x4 then (if x4<(x3.length:Int) then (laws_toByteS.l0 k x0 (x3.set (x4:Int).toNat (rd x0 x4)) (wrap64 (x4+1))) else (none)) else (none)) else (some x3)
def laws_toByteS.f (k:Nat)(l0:List Int):Option (List Int):=if 0≤(l0.length:Int) then (if ((l0.length:Int):Int).toNat≤281474976710656 then (laws_toByteS.l0 k l0 (List.replicate ((l0.length:Int):Int).toNat 0) 0) else (none)) else (none)
theorem laws_toByteS.mono_l :∀k,(∀y0 y1 y2,LeO (laws_toByteS.l0 k y0 y1 y2) (laws_toByteS.l0 (k+1) y0 y1 y2))
  |0=>fun _ _ _ r h=>by simp [laws_toByteS.l0] at h
  | k+1=>by
    have ih0:=laws_toByteS.mono_l k
    · intro y0 y1 y2
      unfold laws_toByteS.l0
      exact LM
theorem laws_toByteS.mono :∀a0 k,LeO (laws_toByteS.f k a0) (laws_toByteS.f (k+1) a0):=by
  intro a0 k;have ih0:=laws_toByteS.mono_l k;unfold laws_toByteS.f;exact LM
theorem laws_toByteS.calls {k:Nat}{A0:Option Addr}{c0:Nat}{l0:List Int}{r:List Int}{w:World}(hr0:Kd.C (Kd.int .u8) w A0 l0.length l0)(hc0:l0.length≤c0)(h:laws_toByteS.f k l0=some r):
    Calls Tryz.prog 31 #[.slice A0 l0.length c0] w fun e w'=>∃v0_:Value,e=.returned (v0_)∧Kd.R (Kd.int .u8) 5 w' w.heap.size (fun _=>True) v0_ r∧Below w.heap.size w w':=by
  have HR0:=aM hr0
  have HC0:=aM hc0
  clear hr0 hc0
  have HB:=aM (Below.refl w.heap.size w)
  have H:=h
  clear h
  unfold laws_toByteS.f at H
  replace H:=ifN H
  obtain⟨c2,H⟩:=H
  have c2b0:=eq_true c2
  have c2b1:decide (0≤(l0.length:Int))=true:=decide_eq_true c2
  clear c2
  replace H:=ifN H
  obtain⟨c3,H⟩:=H
  have c3b0:=eq_true c3
  have c3b1:decide (((l0.length:Int):Int).toNat≤281474976710656)=true:=decide_eq_true c3
  clear c3
  obtain⟨y532,hy532⟩:∃y_:List Int,y_=(List.replicate ((l0.length:Int):Int).toNat 0):=⟨_,rfl⟩
  rw[← hy532] at H
  have Ny532:=aM hy532
  clear hy532
  have H':=aM H
  clear H
  go_enter Tryz.func31,Tryz.ntmps31
  go_wp2_with (first|(refine g_D 7 ?_;refine Kd.R_make (Kd.int .u8) _ 5 rfl (N:=7) rfl 22 _ _ rfl (l0.length:Int) rfl rfl Tryz.underlying22 (.int .u8 0) 1 info5 rfl (by decide) (by omega) 0 (ok:=fun _=>True) (okp:=fun _=>True) rfl (fun _ hk=>hk) trivial DT (Nat.le_trans (Nat.mul_le_mul_right _ (DT:(l0.length:Int).toNat≤281474976710656)) (by omega)) (Below.refl _ _) (Nat.le_refl _) ?_;intro v533 w4 ho5 hb hg_ hnew_;clear hg_ hnew_;(first|rw[← Ny532.out] at ho5|(simp only[Int.reduceToNat] at ho5;rw[← Ny532.out] at ho5));have HO534:=aM (Kd.R_lower ho5 (below_size TB));replace HB:=bS HB hb;clear hb ho5))
  go_loopg [4] k (fun kq v4 w'=>∃(x3_1:List Int) (x4_1:Int),v4=.int .i64 x4_1∧Aside0 (laws_toByteS.l0 kq l0 x3_1 x4_1=some r)∧Aside0 (kq≤k)∧Aside0 (Kd.R (Kd.int .u8) 5 w' w.heap.size (fun _=>True) v533 x3_1)∧Aside0 (Below w.heap.size w w'))
  case atStart=>exact⟨(y532),(0),TF,H',⟨Nat.le_refl _⟩,⟨by have X_:=HO534.out;exact TR⟩,⟨TB⟩⟩
  case round=>
    clear H'
    try clear c2
    try clear c2b0
    try clear c2b1
    try clear p2
    try clear c3
    try clear c3b0
    try clear c3b1
    obtain⟨x3_1,x4_1,rfl,HA,HK1,HO_3,HB⟩:=hrel
    cases gk with
    |zero=>exact absurd HA.out (by simp [laws_toByteS.l0])
    | succ k1=>
      have H:=HA.out
      clear HA
      simp only[laws_toByteS.l0] at H
      by_cases c6:x4_1<(l0.length:Int)
      · rw[if_pos c6] at H
        have c6b0:decide (x4_1<(l0.length:Int))=true:=decide_eq_true c6
        clear c6
        replace H:=ifN H
        obtain⟨c7,H⟩:=H
        have c7b0:decide (0≤x4_1)=true:=decide_eq_true c7
        clear c7
        replace H:=ifN H
        obtain⟨c8,H⟩:=H
        have c8b0:decide (x4_1<(x3_1.length:Int))=true:=decide_eq_true c8
        clear c8
        obtain⟨y536,hy536⟩:∃y_:List Int,y_=(x3_1.set (x4_1:Int).toNat (rd l0 x4_1)):=⟨_,rfl⟩
        rw[← hy536] at H
        have Ny536:=aM hy536
        clear hy536
        have H':=aM H
        clear H
        have p535:0≤(x4_1:Int):=DT
        have q535:x4_1<(l0.length:Int):=DT
        obtain⟨ad535,e535,hx535_0⟩:=Kd.at_int HR0.out x4_1 p535 q535
        cases e535
        replace hx535_0:=(HB.out.cell (World.block_lt_of_cell? w _ hx535_0)).trans hx535_0
        replace p535:=eq_true p535
        replace q535:=eq_true q535
        have p9:0≤(x4_1:Int):=DT
        have q9:(x4_1:Int)<((x3_1.length:Int):Int):=DT
        obtain⟨go9,co9,eo9,gb9,gl9,cl9,HG9⟩:=Kd.R_form HO_3.out (by omega)
        (first|cases eo9|(injection eo9 with ea_ en_ ec_;(first|subst ea_|(injection ea_ with ea_;subst ea_));subst ec_;clear en_))
        have GB9:=aM gb9
        have GG9:=aM HG9
        clear gb9 gl9 HG9
        obtain⟨hx9_0,hf9_0⟩:=Kd.R_celln 0 HO_3.out (x4_1:Int) p9 q9
        replace p9:=eq_true p9
        replace q9:=eq_true q9
        have HP10:=Kd.R_putg HO_3.out (x4_1:Int) (rd l0 x4_1)
        go_wp2_with (first|((with_reducible refine gate_store (t:=5) (p:=20) rfl ?_);refine store_event (t:=5) (p:=20) (v:=?vo_w11) (w1:=(wr.setCell ⟨go9,(x4_1:Int).toNat,none⟩ (.int .u8 (rd l0 x4_1)))) ?hg ?ho ?hn ?hr ?_;(case ho=>rfl);(case hg=>rfl);(case hn=>rfl);(case hr=>first|(go_simp;done)|(go_simp;rfl));intro w11 hw;have hg:wr.grownBy w11 (some go9):=(by rw[hw];exact HP10.2);have hp_:Kd.R (Kd.int .u8) 5 w11 w.heap.size (fun _=>True) (.slice (some ⟨go9,0,none⟩) x3_1.length co9) y536:=(by rw[hw,Ny536.out];exact HP10.1);clear HP10;replace HO_3:=aM (hp_);replace HB:=aM ((by rw[hw];exact below_set (HB.out) GB9.out:Below w.heap.size w w11));clear hg hw hp_))
        go_roundg k1
        case measure=>have:=HK1.out;omega
        case rel=>exact⟨(y536),(wrap64 (x4_1+1)),TF,H',⟨by have:=HK1.out;omega⟩,⟨by have X_:=HO_3.out;exact TR⟩,⟨TB⟩⟩
      · rw[if_neg c6] at H
        have c6b0:decide (x4_1<(l0.length:Int))=false:=decide_eq_false c6
        clear c6
        obtain rfl:=o_I H
        go_wp2
        go_ret
        exact⟨_,TE,by have X_:=HO_3.out;exact TR,TB⟩
def laws_toRecord.f (a0_0:Int)(a0_1:Int)(a0_2:Int):Option (Int×Int×Int):=some (a0_0,a0_1,a0_2)
theorem laws_toRecord.calls {a0_0:Int}{a0_1:Int}{a0_2:Int}{r1:Int}{r2:Int}{r3:Int}{w:World}(h:laws_toRecord.f a0_0 a0_1 a0_2=some (r1,r2,r3)):
    Calls Tryz.prog 32 #[.agg #[.int .i64 a0_0,.int .i64 a0_1,.int .i64 a0_2]] w fun e w'=>e=.returned (.agg #[.int .i64 r1,.int .i64 r2,.int .i64 r3])∧Below w.heap.size w w':=by
  have hu24:=Tryz.underlying24
  have hu36:=Tryz.underlying36
  have HB:=aM (Below.refl w.heap.size w)
  have H:=h
  clear h
  unfold laws_toRecord.f at H
  simp only[Option.some.injEq,Prod.mk.injEq] at H
  obtain⟨rfl,rfl,rfl⟩:=H
  go_enter Tryz.func32,Tryz.ntmps32
  go_wp2_with (first|(refine g_D 1 ?_;refine gBx 1 #[.int .i64 a0_0,.int .i64 a0_1,.int .i64 a0_2] 24 ?_;intro gb537 hg w2 hbox hb;have BK537:=aM (hbox);have GW537:=gW HB hg;have GE537:=gW HB hg;replace HB:=bS HB hb;clear hb hbox hg)|(refine g_D 2 ?_;refine gBx 2 #[.int .i64 0,.int .i64 0,.int .i64 0] 36 ?_;intro gb538 hg w3 hbox hb;have BK538:=aM (hbox);have GW538:=gW HB hg;have GE538:=gW HB hg;obtain⟨NB537_538,NB538_537⟩:=nB BK537 hg;replace BK537:=mB BK537 hb;replace HB:=bS HB hb;clear hb hbox hg)|(refine g_D 3 ?_;refine gBx 3 #[.int .i64 0,.int .i64 0,.int .i64 0] 36 ?_;intro gb539 hg w4 hbox hb;have BK539:=aM (hbox);have GW539:=gW HB hg;have GE539:=gW HB hg;obtain⟨NB537_539,NB539_537⟩:=nB BK537 hg;obtain⟨NB538_539,NB539_538⟩:=nB BK538 hg;replace BK537:=mB BK537 hb;replace BK538:=mB BK538 hb;replace HB:=bS HB hb;clear hb hbox hg;obtain⟨hnb5,hnc5⟩:=oB NB537_538;obtain⟨hnb6,hnc6⟩:=oB NB537_539;obtain⟨hcz7_0,hcz7_1,hcz7_2⟩:=cz3 BK537.out;obtain⟨hfz7_0,hfz7_1,hfz7_2⟩:=fz3 BK537.out;obtain⟨hnb8,hnc8⟩:=oB NB539_538;obtain⟨hcz9_0,hcz9_1,hcz9_2⟩:=cz3 BK539.out;obtain⟨hfz9_0,hfz9_1,hfz9_2⟩:=fz3 BK539.out;obtain⟨hcz10_0,hcz10_1,hcz10_2⟩:=cz3 BK538.out;obtain⟨hfz10_0,hfz10_1,hfz10_2⟩:=fz3 BK538.out))
  refine bodyPost_ret (results_cell_row rfl _ _ gb538 36 #[.int .i64 a0_0,.int .i64 a0_1,.int .i64 a0_2] (0,0) _ rfl (blk_put (blk_put (blk_put (cs:=#[.int .i64 0,.int .i64 0,.int .i64 0]) (TZ BK538) 0 _ rfl) 1 _ rfl) 2 _ rfl) Tryz.underlying36 rfl (by kernel_rfl)) rfl ?_
  exact⟨TE,TB⟩
def laws_toPut.f (k:Nat)(a0_0:Int)(a0_1:Int)(l0_2:List Int)(a0_3:Int)(a0_4:Int)(a0_5:Int):Option (Int×Int×List Int×Int×Int×Int):=(laws_toByteS.f k l0_2).bind fun t543=>((laws_toRecord.f a0_3 a0_4 a0_5).bind fun bt546=>(some (a0_0,a0_1,t543,bt546.1,bt546.2.1,bt546.2.2)))
theorem laws_toPut.mono :∀a0 a1 a2 a3 a4 a5 k,LeO (laws_toPut.f k a0 a1 a2 a3 a4 a5) (laws_toPut.f (k+1) a0 a1 a2 a3 a4 a5):=by
  intro a0 a1 a2 a3 a4 a5 k;have m0_:=@laws_toByteS.mono;unfold laws_toPut.f;exact LM
theorem laws_toPut.calls {k:Nat}{a0_0:Int}{a0_1:Int}{A0_2:Option Addr}{c0_2:Nat}{l0_2:List Int}{a0_3:Int}{a0_4:Int}{a0_5:Int}{r1:Int}{r2:Int}{r3:List Int}{r4:Int}{r5:Int}{r6:Int}{w:World}(hr0_2:Kd.C (Kd.int .u8) w A0_2 l0_2.length l0_2)(hc0_2:l0_2.length≤c0_2)(h:laws_toPut.f k a0_0 a0_1 l0_2 a0_3 a0_4 a0_5=some (r1,r2,r3,r4,r5,r6)):
    Calls Tryz.prog 62 #[.agg #[.int .i64 a0_0,.int .i64 a0_1,.slice A0_2 l0_2.length c0_2,.int .i64 a0_3,.int .i64 a0_4,.int .i64 a0_5]] w fun e w'=>∃v2_:Value,e=.returned (.agg #[.int .i64 r1,.int .i64 r2,v2_,.int .i64 r4,.int .i64 r5,.int .i64 r6])∧Kd.R (Kd.int .u8) 5 w' w.heap.size (fun _=>True) v2_ r3∧Below w.heap.size w w':=by
  have hu79:=Tryz.underlying79
  have hu91:=Tryz.underlying91
  have hu24:=Tryz.underlying24
  have hu36:=Tryz.underlying36
  have HR0_2:=aM hr0_2
  have HC0_2:=aM hc0_2
  clear hr0_2 hc0_2
  have HB:=aM (Below.refl w.heap.size w)
  have H:=h
  clear h
  unfold laws_toPut.f at H
  replace H:=bE H
  obtain⟨t543,A2,H⟩:=H
  replace H:=bE H
  obtain⟨⟨t546,t547,t548⟩,A3,H⟩:=H
  dsimp only at H
  simp only[Option.some.injEq,Prod.mk.injEq] at H
  obtain⟨rfl,rfl,rfl,rfl,rfl,rfl⟩:=H
  go_enter Tryz.func62,Tryz.ntmps62
  go_wp2_with (first|(refine g_D 1 ?_;refine gBx 1 #[.int .i64 a0_0,.int .i64 a0_1,.slice A0_2 l0_2.length c0_2,.int .i64 a0_3,.int .i64 a0_4,.int .i64 a0_5] 79 ?_;intro gb540 hg w4 hbox hb;have BK540:=aM (hbox);have GW540:=gW HB hg;have GE540:=gW HB hg;replace HB:=bS HB hb;clear hb hbox hg)|(refine g_D 2 ?_;refine gBx 2 #[.int .i64 0,.int .i64 0,.slice none 0 0,.int .i64 0,.int .i64 0,.int .i64 0] 91 ?_;intro gb541 hg w5 hbox hb;have BK541:=aM (hbox);have GW541:=gW HB hg;have GE541:=gW HB hg;obtain⟨NB540_541,NB541_540⟩:=nB BK540 hg;replace BK540:=mB BK540 hb;replace HB:=bS HB hb;clear hb hbox hg)|(refine g_D 3 ?_;refine gBx 3 #[.int .i64 0,.int .i64 0,.slice none 0 0,.int .i64 0,.int .i64 0,.int .i64 0] 91 ?_;intro gb542 hg w6 hbox hb;have BK542:=aM (hbox);have GW542:=gW HB hg;have GE542:=gW HB hg;obtain⟨NB540_542,NB542_540⟩:=nB BK540 hg;obtain⟨NB541_542,NB542_541⟩:=nB BK541 hg;replace BK540:=mB BK540 hb;replace BK541:=mB BK541 hb;replace HB:=bS HB hb;clear hb hbox hg;obtain⟨hnb7,hnc7⟩:=oB NB540_541;obtain⟨hnb8,hnc8⟩:=oB NB540_542;obtain⟨hcz9_0,hcz9_1,hcz9_2,hcz9_3,hcz9_4,hcz9_5⟩:=cz6 BK540.out;obtain⟨hfz9_0,hfz9_1,hfz9_2,hfz9_3,hfz9_4,hfz9_5⟩:=fz6 BK540.out;obtain⟨hnb10,hnc10⟩:=oB NB542_541;obtain⟨hcz11_0,hcz11_1,hcz11_2,hcz11_3,hcz11_4,hcz11_5⟩:=cz6 BK542.out;obtain⟨hfz11_0,hfz11_1,hfz11_2,hfz11_3,hfz11_4,hfz11_5⟩:=fz6 BK542.out)|(refine g_C 31 ?_;refine gL (some 12) Tryz.func31 #[.slice A0_2 l0_2.length c0_2] ?_;(with_reducible refine(laws_toByteS.calls ?side1 ?side2 A2.out).mono ?_);(case side1=>exact Kd.C_below HR0_2.out TB);(case side2=>exact HC0_2.out);rintro e w12 ⟨v544,rfl,ho0,hb⟩;refine⟨_,rfl,?_⟩;have HO545:=aM (Kd.R_lower ho0 (below_size TB));replace BK540:=mB BK540 hb;replace BK541:=mB BK541 hb;replace BK542:=aM (blk_below (g:=gb542) (o:=.cells #[.int .i64 a0_0,.int .i64 a0_1,.slice none 0 0,.int .i64 0,.int .i64 0,.int .i64 0] 91 (0,0)) (blk_put (blk_put (cs:=#[.int .i64 0,.int .i64 0,.slice none 0 0,.int .i64 0,.int .i64 0,.int .i64 0]) (TZ BK542) 0 _ rfl) 1 _ rfl) hb);replace HB:=bS HB hb;clear ho0 hb;obtain⟨Ao13,co13,eo13⟩:=Kd.R_slice HO545.out;subst eo13;obtain⟨hcz14_0,hcz14_1,hcz14_2,hcz14_3,hcz14_4,hcz14_5⟩:=cz6 BK542.out;obtain⟨hfz14_0,hfz14_1,hfz14_2,hfz14_3,hfz14_4,hfz14_5⟩:=fz6 BK542.out;obtain⟨hcz15_0,hcz15_1,hcz15_2,hcz15_3,hcz15_4,hcz15_5⟩:=cz6 BK540.out;obtain⟨hfz15_0,hfz15_1,hfz15_2,hfz15_3,hfz15_4,hfz15_5⟩:=fz6 BK540.out)|(refine g_C 32 ?_;refine gL (some 16) Tryz.func32 #[.agg #[.int .i64 a0_3,.int .i64 a0_4,.int .i64 a0_5]] ?_;(with_reducible refine(laws_toRecord.calls A3.out).mono ?_);rintro e w16 ⟨rfl,hb⟩;refine⟨_,rfl,?_⟩;replace HO545:=aM (Kd.R_below (TY HO545 BK542) hb);replace BK540:=mB BK540 hb;replace BK541:=mB BK541 hb;replace BK542:=aM (blk_below (g:=gb542) (o:=.cells #[.int .i64 a0_0,.int .i64 a0_1,.slice Ao13 t543.length co13,.int .i64 0,.int .i64 0,.int .i64 0] 91 (0,0)) (blk_put (cs:=#[.int .i64 a0_0,.int .i64 a0_1,.slice none 0 0,.int .i64 0,.int .i64 0,.int .i64 0]) (TZ BK542) 2 _ rfl) hb);replace HB:=bS HB hb;clear hb;obtain⟨hcz17_0,hcz17_1,hcz17_2,hcz17_3,hcz17_4,hcz17_5⟩:=cz6 BK542.out;obtain⟨hfz17_0,hfz17_1,hfz17_2,hfz17_3,hfz17_4,hfz17_5⟩:=fz6 BK542.out;obtain⟨hcz18_0,hcz18_1,hcz18_2,hcz18_3,hcz18_4,hcz18_5⟩:=cz6 BK541.out;obtain⟨hfz18_0,hfz18_1,hfz18_2,hfz18_3,hfz18_4,hfz18_5⟩:=fz6 BK541.out))
  refine bodyPost_ret (results_cell_row rfl _ _ gb541 91 #[.int .i64 a0_0,.int .i64 a0_1,.slice Ao13 t543.length co13,.int .i64 t546,.int .i64 t547,.int .i64 t548] (0,0) _ rfl (blk_put (blk_put (blk_put (blk_put (blk_put (blk_put (cs:=#[.int .i64 0,.int .i64 0,.slice none 0 0,.int .i64 0,.int .i64 0,.int .i64 0]) (TZ BK541) 0 _ rfl) 1 _ rfl) 2 _ rfl) 3 _ rfl) 4 _ rfl) 5 _ rfl) Tryz.underlying91 rfl (by kernel_rfl)) rfl ?_
  exact⟨_,TE,by (with_reducible repeat (first|apply Kd.R_alloc|apply Kd.R_drewN|apply Kd.R_drew));exact Kd.R_mono (RK2 (Kd.R_types (Kd.R_types HO545.out BK542.out (by decide)) BK541.out (by decide))) (fun _ hk=>trivial),TB⟩
def laws_toPutS.l0 :Nat→List (S79)→List (S91)→Int→Option ((List (S91)))
  |0,_,_,_=>none
  |k+1,x0,x3,x4=>if x4<(x0.length:Int) then (if 0≤x4 then ((laws_toPut.f k ((rd_T79 x0 x4).f0) ((rd_T79 x0 x4).f1) ((rd_T79 x0 x4).f2) ((rd_T79 x0 x4).f3.f0) ((rd_T79 x0 x4).f3.f1) ((rd_T79 x0 x4).f3.f2)).bind fun bt553=>(if x4<(x3.length:Int) then (laws_toPutS.l0 k x0 (x3.set (x4:Int).toNat (⟨bt553.1,bt553.2.1,bt553.2.2.1,(⟨bt553.2.2.2.1,bt553.2.2.2.2.1,bt553.2.2.2.2.2⟩:S36)⟩:S91)) (wrap64 (x4+1))) else (none))) else (none)) else (some x3)
def laws_toPutS.f (k:Nat)(l0:List (S79)):Option ((List (S91))):=if 0≤(l0.length:Int) then (if ((l0.length:Int):Int).toNat≤4398046511104 then (laws_toPutS.l0 k l0 (List.replicate ((l0.length:Int):Int).toNat z91) 0) else (none)) else (none)
theorem laws_toPutS.mono_l :∀k,(∀y0 y1 y2,LeO (laws_toPutS.l0 k y0 y1 y2) (laws_toPutS.l0 (k+1) y0 y1 y2))
  |0=>fun _ _ _ r h=>by simp [laws_toPutS.l0] at h
  | k+1=>by
    have m0_:=@laws_toPut.mono
    have ih0:=laws_toPutS.mono_l k
    · intro y0 y1 y2
      unfold laws_toPutS.l0
      exact LM
theorem laws_toPutS.mono :∀a0 k,LeO (laws_toPutS.f k a0) (laws_toPutS.f (k+1) a0):=by
  intro a0 k;have m0_:=@laws_toPut.mono;have ih0:=laws_toPutS.mono_l k;unfold laws_toPutS.f;exact LM
theorem laws_toPutS.calls {k:Nat}{A0:Option Addr}{c0:Nat}{l0:List (S79)}{r:List (S91)}{w:World}(hr0:Kd.C k79 w A0 l0.length l0)(hc0:l0.length≤c0)(h:laws_toPutS.f k l0=some r):
  Calls Tryz.prog 33 #[.slice A0 l0.length c0] w fun e w'=>∃v0_:Value,e=.returned (v0_)∧Kd.S k91 91 w' w.heap.size (fun _=>True) v0_ r∧Below w.heap.size w w':=by
 have hu79:=Tryz.underlying79;have hu91:=Tryz.underlying91;have HR0:=aM hr0;have HC0:=aM hc0;clear hr0 hc0;have HB:=aM (Below.refl w.heap.size w);have H:=h;clear h;unfold laws_toPutS.f at H;replace H:=ifN H;obtain⟨c2,H⟩:=H;have c2b0:=eq_true c2;have c2b1:decide (0≤(l0.length:Int))=true:=decide_eq_true c2;clear c2;replace H:=ifN H;obtain⟨c3,H⟩:=H;have c3b0:=eq_true c3;have c3b1:decide (((l0.length:Int):Int).toNat≤4398046511104)=true:=decide_eq_true c3;clear c3;obtain⟨yq1,ak⟩:∃y_:List (S91),y_=(List.replicate ((l0.length:Int):Int).toNat z91):=⟨_,rfl⟩;rw[← ak] at H;have Nyq1:=aM ak;clear ak;have H':=aM H;clear H;go_enter Tryz.func33,Tryz.ntmps33;go_wp2_with (first|(refine g_D 7 ?_;refine Kd.S_make k91 _ 91 rfl (N:=7) rfl 37 _ _ rfl (l0.length:Int) rfl rfl Tryz.underlying37 (.agg #[(.int .i64 0),(.int .i64 0),(.slice none 0 0),(.int .i64 0),(.int .i64 0),(.int .i64 0)]) 64 info91 rfl (by decide) (by omega) z91 (ok:=fun _=>True) (okp:=fun _=>True) (k91_mkM _ _ _ z91 (Kd.R_nil _ _ _ _ _)) (fun _ hk=>hk) trivial DT (Nat.le_trans (Nat.mul_le_mul_right _ (DT:(l0.length:Int).toNat≤4398046511104)) (by omega)) (Below.refl _ _) (Nat.le_refl _) ?_;intro vq1 w4 ho5 hb hg_ hnew_;clear hg_ hnew_;(first|rw[← Nyq1.out] at ho5|(simp only[Int.reduceToNat] at ho5;rw[← Nyq1.out] at ho5));have HOq1:=aM (Kd.S_lower ho5 (below_size TB));replace HB:=bS HB hb;clear hb ho5))
 go_loopg [4] k (fun kq v4 w'=>∃(ab:List (S91)) (aa:Int),v4=.int .i64 aa∧Aside0 (laws_toPutS.l0 kq l0 ab aa=some r)∧Aside0 (kq≤k)∧Aside0 (Kd.S k91 91 w' w.heap.size (fun _=>True) vq1 ab)∧Aside0 (Below w.heap.size w w'))
 case atStart=>exact⟨(yq1),(0),TF,H',⟨Nat.le_refl _⟩,⟨by have X_:=HOq1.out;exact TS⟩,⟨TB⟩⟩
 case round=>
  clear H';try clear c2
  try clear c2b0
  try clear c2b1
  try clear c3
  try clear c3b0
  try clear c3b1
  obtain⟨ab,aa,rfl,HA,HK1,ac,HB⟩:=hrel;cases gk with
  |zero=>exact absurd HA.out (by simp [laws_toPutS.l0])
  | succ k1=>
   have H:=HA.out;clear HA;simp only[laws_toPutS.l0] at H
   by_cases c6:aa<(l0.length:Int)
   ·rw[if_pos c6] at H;have c6b0:decide (aa<(l0.length:Int))=true:=decide_eq_true c6;clear c6;replace H:=ifN H;obtain⟨c7,H⟩:=H;have c7b0:decide (0≤aa)=true:=decide_eq_true c7;clear c7;replace H:=bE H;obtain⟨⟨tq1,tq2,tq3,tq4,tq5,tq6⟩,Aq1,H⟩:=H;dsimp only at H;replace H:=ifN H;obtain⟨cq1,H⟩:=H;have cq2:decide (aa<(ab.length:Int))=true:=decide_eq_true cq1;clear cq1;obtain⟨yq2,af⟩:∃y_:List (S91),y_=(ab.set (aa:Int).toNat (⟨tq1,tq2,tq3,(⟨tq4,tq5,tq6⟩:S36)⟩:S91)):=⟨_,rfl⟩;rw[← af] at H;have Nyq2:=aM af;clear af;have H':=aM H;clear H;have pq1:0≤(aa:Int):=DT;have qq1:aa<(l0.length:Int):=DT;obtain⟨adq1,Aq2,cq3,eq1,ah,ag,ae,ad,ai,aj,hlq1,hiq1⟩:=at_T79 HR0.out aa pq1 qq1;cases eq1;replace ah:=(HB.out.cell (World.block_lt_of_cell? w _ ah)).trans ah;replace ag:=(HB.out.cell (World.block_lt_of_cell? w _ ag)).trans ag;replace ae:=(HB.out.cell (World.block_lt_of_cell? w _ ae)).trans ae;replace ad:=(HB.out.cell (World.block_lt_of_cell? w _ ad)).trans ad;replace ai:=(HB.out.cell (World.block_lt_of_cell? w _ ai)).trans ai;replace aj:=(HB.out.cell (World.block_lt_of_cell? w _ aj)).trans aj;have HRq1:=aM hiq1;have HCq1:=aM hlq1;clear hiq1 hlq1;replace pq1:=eq_true pq1;replace qq1:=eq_true qq1;go_wp2_with (first|(refine g_C 62 ?_;refine gL (some 20) Tryz.func62 #[.agg #[.int .i64 ((rd_T79 l0 aa).f0),.int .i64 ((rd_T79 l0 aa).f1),.slice Aq2 ((rd_T79 l0 aa).f2).length cq3,.int .i64 ((rd_T79 l0 aa).f3.f0),.int .i64 ((rd_T79 l0 aa).f3.f1),.int .i64 ((rd_T79 l0 aa).f3.f2)]] ?_;(with_reducible refine(laws_toPut.calls ?side1 ?side2 Aq1.out).mono ?_);(case side1=>have X_:=(Kd.C_below HRq1.out HB.out);exact TC);(case side2=>exact HCq1.out);rintro e w11 ⟨vq2,rfl,ho0,hb⟩;refine⟨_,rfl,?_⟩;have HOq2:=aM (Kd.R_lower ho0 (below_size TB));replace ac:=aM (Kd.S_elder' (by have X_:=ac.out;exact TS) (Kd.R_base ho0) hb);replace HB:=bS HB hb;clear ho0 hb;have pq2:0≤(aa:Int):=DT;have qq2:(aa:Int)<((ab.length:Int):Int):=DT;obtain⟨goq1,coq1,eoq1,gbq1,glq1,clq1,HGq1⟩:=Kd.S_form ac.out (by omega);(first|cases eoq1|(injection eoq1 with ea_ en_ ec_;(first|subst ea_|(injection ea_ with ea_;subst ea_));subst ec_;clear en_));have GBq1:=aM gbq1;have GGq1:=aM HGq1;clear gbq1 glq1 HGq1;obtain⟨_,ceq1,hclq1,hMq1,hccq1,hfrq1,_,_⟩:=Kd.S_elem ac.out z91 (aa:Int) pq2 qq2;obtain⟨veq1,rfl,geq1⟩:=k91_openM hMq1;have hxq7:w11.cell? ⟨goq1,(aa:Int).toNat * 6,none⟩=some (.int .i64 ((rd_T91 ab aa).f0)):=hccq1 0 _ rfl;have hxq8:w11.cell? ⟨goq1,(aa:Int).toNat * 6+1,none⟩=some (.int .i64 ((rd_T91 ab aa).f1)):=hccq1 1 _ rfl;have hxq9:w11.cell? ⟨goq1,(aa:Int).toNat * 6+2,none⟩=some (veq1):=hccq1 2 _ rfl;have hxq10:w11.cell? ⟨goq1,(aa:Int).toNat * 6+3,none⟩=some (.int .i64 ((rd_T91 ab aa).f3.f0)):=hccq1 3 _ rfl;have hxq11:w11.cell? ⟨goq1,(aa:Int).toNat * 6+4,none⟩=some (.int .i64 ((rd_T91 ab aa).f3.f1)):=hccq1 4 _ rfl;have hxq12:w11.cell? ⟨goq1,(aa:Int).toNat * 6+5,none⟩=some (.int .i64 ((rd_T91 ab aa).f3.f2)):=hccq1 5 _ rfl;have hfq1:w11.frozen? ⟨goq1,(aa:Int).toNat * 6,none⟩=false:=hfrq1 0;have hfq2:w11.frozen? ⟨goq1,(aa:Int).toNat * 6+1,none⟩=false:=hfrq1 1;have hfq3:w11.frozen? ⟨goq1,(aa:Int).toNat * 6+2,none⟩=false:=hfrq1 2;have hfq4:w11.frozen? ⟨goq1,(aa:Int).toNat * 6+3,none⟩=false:=hfrq1 3;have hfq5:w11.frozen? ⟨goq1,(aa:Int).toNat * 6+4,none⟩=false:=hfrq1 4;have hfq6:w11.frozen? ⟨goq1,(aa:Int).toNat * 6+5,none⟩=false:=hfrq1 5;clear hclq1 hccq1 hfrq1 hMq1;replace pq2:=eq_true pq2;replace qq2:=eq_true qq2;have n_:=aM (Kd.S_mono (ok':=(fun k_=>some k_≠(vq2:Value).ownBlock)) ac.out (fun k_ hk=>hk.2));clear ac;have ac:=n_;clear n_;have HXq1:=aM (show Kd.S k91 91 w11 w.heap.size (fun k_=>((fun _=>True)) k_∧¬((fun k_=>some k_=(vq2:Value).ownBlock)) k_) (.slice (some ⟨goq1,0,none⟩) ab.length coq1) ab from(by (with_reducible repeat (first|apply Kd.S_alloc|apply Kd.S_drewN|apply Kd.S_drew));exact Kd.S_mono ac.out (fun k_ hk=>⟨trivial,fun e_=>hk e_⟩)));obtain⟨okiq1,ceq2,hclq2,hMq2,hccq2,hfrq2,hokiq1,hHq1⟩:=Kd.S_elem HXq1.out z91 (aa:Int) DT (by have h_:(aa:Int)<((ab.length:Int):Int):=DT;first|exact h_|(have e_:=(Kd.S_reads' ac.out).1;omega)|simpa using h_);obtain⟨veq2,rfl,geq2⟩:=k91_openM hMq2;have HPq1:=Kd.S_seg hHq1 DT (by have h_:(aa:Int)<((ab.length:Int):Int):=DT;first|exact h_|(have e_:=(Kd.S_reads' ac.out).1;omega)|simpa using h_) (seg:=[.int .i64 tq1,.int .i64 tq2,vq2,.int .i64 tq4,.int .i64 tq5,.int .i64 tq6]) (j:=0) (show 6≤6 from by decide) (x':=(⟨tq1,tq2,tq3,(⟨tq4,tq5,tq6⟩:S36)⟩:S91)) (k91_mkM _ _ _ (⟨tq1,tq2,tq3,(⟨tq4,tq5,tq6⟩:S36)⟩:S91) (Kd.R_mono (Kd.R_tight rfl (Kd.R_mono (ok':=fun k_=>((fun _=>True)) k_∧k_≠goq1) (Kd.R_apart' (HOq2.out) (Kd.S_typed ac.out) (by decide)) (fun k_ hk=>⟨trivial,fun e_=>(hk.2) (by rw[e_];rfl)⟩))) (fun _ h_=>Or.inr (h_)))) (fun _ hk=>hk) (fun k_ hk_=>((Kd.R_mono (ok':=fun k_=>((fun _=>True)) k_∧k_≠goq1) (Kd.R_apart' (HOq2.out) (Kd.S_typed ac.out) (by decide)) (fun k_ hk=>⟨trivial,fun e_=>(hk.2) (by rw[e_];rfl)⟩))).1 k_ hk_.symm);have hxq13:=hccq2 0 _ rfl;(try simp only[show(k91).sz=6 from rfl,Nat.mul_one,Nat.add_zero] at hxq13);have hfq7:=hfrq2 0;(try simp only[show(k91).sz=6 from rfl,Nat.mul_one,Nat.add_zero] at hfq7);have hxq14:=hccq2 1 _ rfl;(try simp only[show(k91).sz=6 from rfl,Nat.mul_one,Nat.add_zero] at hxq14);have hfq8:=hfrq2 1;(try simp only[show(k91).sz=6 from rfl,Nat.mul_one,Nat.add_zero] at hfq8);have hxq15:=hccq2 2 _ rfl;(try simp only[show(k91).sz=6 from rfl,Nat.mul_one,Nat.add_zero] at hxq15);have hfq9:=hfrq2 2;(try simp only[show(k91).sz=6 from rfl,Nat.mul_one,Nat.add_zero] at hfq9);have hxq16:=hccq2 3 _ rfl;(try simp only[show(k91).sz=6 from rfl,Nat.mul_one,Nat.add_zero] at hxq16);have hfq10:=hfrq2 3;(try simp only[show(k91).sz=6 from rfl,Nat.mul_one,Nat.add_zero] at hfq10);have hxq17:=hccq2 4 _ rfl;(try simp only[show(k91).sz=6 from rfl,Nat.mul_one,Nat.add_zero] at hxq17);have hfq11:=hfrq2 4;(try simp only[show(k91).sz=6 from rfl,Nat.mul_one,Nat.add_zero] at hfq11);have hxq18:=hccq2 5 _ rfl;(try simp only[show(k91).sz=6 from rfl,Nat.mul_one,Nat.add_zero] at hxq18);have hfq12:=hfrq2 5;(try simp only[show(k91).sz=6 from rfl,Nat.mul_one,Nat.add_zero] at hfq12);clear hclq2 hccq2 hfrq2 hMq2 hokiq1 hHq1)|((with_reducible refine gate_store (t:=91) (p:=21) rfl ?_);refine store_event (t:=91) (p:=21) (v:=?vo_w13) (w1:=((((((w11.setCell ⟨goq1,(aa:Int).toNat * 6,none⟩ (.int .i64 tq1)).setCell ⟨goq1,(aa:Int).toNat * 6+1,none⟩ (.int .i64 tq2)).setCell ⟨goq1,(aa:Int).toNat * 6+2,none⟩ (vq2)).setCell ⟨goq1,(aa:Int).toNat * 6+3,none⟩ (.int .i64 tq4)).setCell ⟨goq1,(aa:Int).toNat * 6+4,none⟩ (.int .i64 tq5)).setCell ⟨goq1,(aa:Int).toNat * 6+5,none⟩ (.int .i64 tq6))) ?hg ?ho ?hn ?hr ?_;(case ho=>rfl);(case hg=>rfl);(case hn=>rfl);(case hr=>first|(go_simp;done)|(obtain⟨_,_,hv_⟩:=Kd.R_slice HOq2.out;subst hv_;first|(go_simp;done)|(go_simp;rfl))|(go_simp;rfl));intro wq1 hw;have hg:w11.grownBy wq1 (some goq1):=(by rw[hw];exact HPq1.2);have hp_:Kd.S k91 91 wq1 w.heap.size (fun _=>True) (.slice (some ⟨goq1,0,none⟩) ab.length coq1) yq2:=(by rw[hw,Nyq2.out];exact HPq1.1);clear HPq1;replace ac:=aM (hp_);replace HB:=aM ((by rw[hw];exact below_set (below_set (below_set (below_set (below_set (below_set (HB.out) GBq1.out) GBq1.out) GBq1.out) GBq1.out) GBq1.out) GBq1.out:Below w.heap.size w wq1));clear HOq2;clear hg hw hp_))
    go_roundg k1
    case measure=>have:=HK1.out;omega
    case rel=>exact⟨(yq2),(wrap64 (aa+1)),TF,H',⟨by have:=HK1.out;omega⟩,⟨by have X_:=ac.out;exact TS⟩,⟨TB⟩⟩
   ·rw[if_neg c6] at H;have c6b0:decide (aa<(l0.length:Int))=false:=decide_eq_false c6;clear c6;obtain rfl:=o_I H;go_wp2
    go_ret
    exact⟨_,TE,by have X_:=ac.out;exact TS,TB⟩
def laws_toDisk.f (k:Nat)(l0_0:List Int)(l0_1:List Int)(a0_2:Int)(a0_3:Int)(a0_4:Int)(l0_5:List (S79)):Option (List Int×List Int×Int×Int×Int×(List (S91))):=(laws_toByteS.f k l0_0).bind fun t565=>((laws_toByteS.f k l0_1).bind fun t568=>((laws_toRecord.f a0_2 a0_3 a0_4).bind fun bt571=>((laws_toPutS.f k l0_5).bind fun t574=>(some (t565,t568,bt571.1,bt571.2.1,bt571.2.2,t574)))))
theorem laws_toDisk.mono :∀a0 a1 a2 a3 a4 a5 k,LeO (laws_toDisk.f k a0 a1 a2 a3 a4 a5) (laws_toDisk.f (k+1) a0 a1 a2 a3 a4 a5):=by
  intro a0 a1 a2 a3 a4 a5 k;have m0_:=@laws_toByteS.mono;have m1_:=@laws_toPutS.mono;unfold laws_toDisk.f;exact LM
theorem laws_toDisk.calls {k:Nat}{A0_0:Option Addr}{c0_0:Nat}{l0_0:List Int}{A0_1:Option Addr}{c0_1:Nat}{l0_1:List Int}{a0_2:Int}{a0_3:Int}{a0_4:Int}{A0_5:Option Addr}{c0_5:Nat}{l0_5:List (S79)}{r1:List Int}{r2:List Int}{r3:Int}{r4:Int}{r5:Int}{r6:List (S91)}{w:World}(hr0_0:Kd.C (Kd.int .u8) w A0_0 l0_0.length l0_0)(hc0_0:l0_0.length≤c0_0)(hr0_1:Kd.C (Kd.int .u8) w A0_1 l0_1.length l0_1)(hc0_1:l0_1.length≤c0_1)(hr0_5:Kd.C k79 w A0_5 l0_5.length l0_5)(hc0_5:l0_5.length≤c0_5)(h:laws_toDisk.f k l0_0 l0_1 a0_2 a0_3 a0_4 l0_5=some (r1,r2,r3,r4,r5,r6)):
    Calls Tryz.prog 9 #[.agg #[.slice A0_0 l0_0.length c0_0,.slice A0_1 l0_1.length c0_1,.int .i64 a0_2,.int .i64 a0_3,.int .i64 a0_4,.slice A0_5 l0_5.length c0_5]] w fun e w'=>∃v0_ v1_ v5_:Value,e=.returned (.agg #[v0_,v1_,.int .i64 r3,.int .i64 r4,.int .i64 r5,v5_])∧Kd.R (Kd.int .u8) 5 w' w.heap.size (fun k_=>some k_≠(v1_:Value).ownBlock) v0_ r1∧Kd.R (Kd.int .u8) 5 w' w.heap.size (fun k_=>some k_≠(v0_:Value).ownBlock) v1_ r2∧Kd.S k91 91 w' w.heap.size (fun k_=>some k_≠(v0_:Value).ownBlock∧some k_≠(v1_:Value).ownBlock) v5_ r6∧Below w.heap.size w w':=by
  have hu27:=Tryz.underlying27
  have hu39:=Tryz.underlying39
  have hu24:=Tryz.underlying24
  have hu36:=Tryz.underlying36
  have HR0_0:=aM hr0_0
  have HC0_0:=aM hc0_0
  clear hr0_0 hc0_0
  have HR0_1:=aM hr0_1
  have HC0_1:=aM hc0_1
  clear hr0_1 hc0_1
  have HR0_5:=aM hr0_5
  have HC0_5:=aM hc0_5
  clear hr0_5 hc0_5
  have HB:=aM (Below.refl w.heap.size w)
  have H:=h
  clear h
  unfold laws_toDisk.f at H
  replace H:=bE H
  obtain⟨t565,A2,H⟩:=H
  replace H:=bE H
  obtain⟨t568,A3,H⟩:=H
  replace H:=bE H
  obtain⟨⟨t571,t572,t573⟩,A4,H⟩:=H
  dsimp only at H
  replace H:=bE H
  obtain⟨t574,A5,H⟩:=H
  simp only[Option.some.injEq,Prod.mk.injEq] at H
  obtain⟨rfl,rfl,rfl,rfl,rfl,rfl⟩:=H
  go_enter Tryz.func9,Tryz.ntmps9
  go_wp2_with (first|(refine g_D 1 ?_;refine gBx 1 #[.slice A0_0 l0_0.length c0_0,.slice A0_1 l0_1.length c0_1,.int .i64 a0_2,.int .i64 a0_3,.int .i64 a0_4,.slice A0_5 l0_5.length c0_5] 27 ?_;intro gb562 hg w6 hbox hb;have BK562:=aM (hbox);have GW562:=gW HB hg;have GE562:=gW HB hg;replace HB:=bS HB hb;clear hb hbox hg)|(refine g_D 2 ?_;refine gBx 2 #[.slice none 0 0,.slice none 0 0,.int .i64 0,.int .i64 0,.int .i64 0,.slice none 0 0] 39 ?_;intro gb563 hg w7 hbox hb;have BK563:=aM (hbox);have GW563:=gW HB hg;have GE563:=gW HB hg;obtain⟨NB562_563,NB563_562⟩:=nB BK562 hg;replace BK562:=mB BK562 hb;replace HB:=bS HB hb;clear hb hbox hg)|(refine g_D 3 ?_;refine gBx 3 #[.slice none 0 0,.slice none 0 0,.int .i64 0,.int .i64 0,.int .i64 0,.slice none 0 0] 39 ?_;intro gb564 hg w8 hbox hb;have BK564:=aM (hbox);have GW564:=gW HB hg;have GE564:=gW HB hg;obtain⟨NB562_564,NB564_562⟩:=nB BK562 hg;obtain⟨NB563_564,NB564_563⟩:=nB BK563 hg;replace BK562:=mB BK562 hb;replace BK563:=mB BK563 hb;replace HB:=bS HB hb;clear hb hbox hg;obtain⟨hnb9,hnc9⟩:=oB NB562_563;obtain⟨hnb10,hnc10⟩:=oB NB562_564;obtain⟨hcz11_0,hcz11_1,hcz11_2,hcz11_3,hcz11_4,hcz11_5⟩:=cz6 BK562.out;obtain⟨hfz11_0,hfz11_1,hfz11_2,hfz11_3,hfz11_4,hfz11_5⟩:=fz6 BK562.out)|(refine g_C 31 ?_;refine gL (some 6) Tryz.func31 #[.slice A0_0 l0_0.length c0_0] ?_;(with_reducible refine(laws_toByteS.calls ?side1 ?side2 A2.out).mono ?_);(case side1=>have X_:=(Kd.C_below HR0_0.out HB.out);exact TC);(case side2=>exact HC0_0.out);rintro e w12 ⟨v566,rfl,ho0,hb⟩;refine⟨_,rfl,?_⟩;have HO567:=aM (Kd.R_lower ho0 (below_size TB));replace BK562:=mB BK562 hb;replace BK563:=mB BK563 hb;replace BK564:=mB BK564 hb;replace HB:=bS HB hb;clear ho0 hb;obtain⟨Ao13,co13,eo13⟩:=Kd.R_slice HO567.out;subst eo13;obtain⟨hnb14,hnc14⟩:=oB NB564_563;obtain⟨hcz15_0,hcz15_1,hcz15_2,hcz15_3,hcz15_4,hcz15_5⟩:=cz6 BK564.out;obtain⟨hfz15_0,hfz15_1,hfz15_2,hfz15_3,hfz15_4,hfz15_5⟩:=fz6 BK564.out;obtain⟨hcz16_0,hcz16_1,hcz16_2,hcz16_3,hcz16_4,hcz16_5⟩:=cz6 BK562.out;obtain⟨hfz16_0,hfz16_1,hfz16_2,hfz16_3,hfz16_4,hfz16_5⟩:=fz6 BK562.out)|(refine g_C 31 ?_;refine gL (some 10) Tryz.func31 #[.slice A0_1 l0_1.length c0_1] ?_;(with_reducible refine(laws_toByteS.calls ?side1 ?side2 A3.out).mono ?_);(case side1=>exact Kd.C_below HR0_1.out TB);(case side2=>exact HC0_1.out);rintro e w17 ⟨v569,rfl,ho0,hb⟩;refine⟨_,rfl,?_⟩;have HO570:=aM (Kd.R_lower (Kd.R_new' ho0 (Kd.R_lt (TY HO567 BK564))) (below_size TB));replace HO567:=aM (Kd.R_elder' (TY HO567 BK564) (Kd.R_base ho0) hb);replace BK562:=mB BK562 hb;replace BK563:=mB BK563 hb;replace BK564:=aM (blk_below (g:=gb564) (o:=.cells #[.slice Ao13 t565.length co13,.slice none 0 0,.int .i64 0,.int .i64 0,.int .i64 0,.slice none 0 0] 39 (0,0)) (blk_put (cs:=#[.slice none 0 0,.slice none 0 0,.int .i64 0,.int .i64 0,.int .i64 0,.slice none 0 0]) (TZ BK564) 0 _ rfl) hb);replace HB:=bS HB hb;clear ho0 hb;obtain⟨Ao18,co18,eo18⟩:=Kd.R_slice HO570.out;subst eo18;obtain⟨hcz19_0,hcz19_1,hcz19_2,hcz19_3,hcz19_4,hcz19_5⟩:=cz6 BK564.out;obtain⟨hfz19_0,hfz19_1,hfz19_2,hfz19_3,hfz19_4,hfz19_5⟩:=fz6 BK564.out;obtain⟨hcz20_0,hcz20_1,hcz20_2,hcz20_3,hcz20_4,hcz20_5⟩:=cz6 BK562.out;obtain⟨hfz20_0,hfz20_1,hfz20_2,hfz20_3,hfz20_4,hfz20_5⟩:=fz6 BK562.out)|(refine g_C 32 ?_;refine gL (some 14) Tryz.func32 #[.agg #[.int .i64 a0_2,.int .i64 a0_3,.int .i64 a0_4]] ?_;(with_reducible refine(laws_toRecord.calls A4.out).mono ?_);rintro e w21 ⟨rfl,hb⟩;refine⟨_,rfl,?_⟩;replace HO567:=aM (Kd.R_below (TY HO567 BK564) hb);replace HO570:=aM (Kd.R_below (TY HO570 BK564) hb);replace BK562:=mB BK562 hb;replace BK563:=mB BK563 hb;replace BK564:=aM (blk_below (g:=gb564) (o:=.cells #[.slice Ao13 t565.length co13,.slice Ao18 t568.length co18,.int .i64 0,.int .i64 0,.int .i64 0,.slice none 0 0] 39 (0,0)) (blk_put (cs:=#[.slice Ao13 t565.length co13,.slice none 0 0,.int .i64 0,.int .i64 0,.int .i64 0,.slice none 0 0]) (TZ BK564) 1 _ rfl) hb);replace HB:=bS HB hb;clear hb;obtain⟨hcz22_0,hcz22_1,hcz22_2,hcz22_3,hcz22_4,hcz22_5⟩:=cz6 BK564.out;obtain⟨hfz22_0,hfz22_1,hfz22_2,hfz22_3,hfz22_4,hfz22_5⟩:=fz6 BK564.out;obtain⟨hcz23_0,hcz23_1,hcz23_2,hcz23_3,hcz23_4,hcz23_5⟩:=cz6 BK562.out;obtain⟨hfz23_0,hfz23_1,hfz23_2,hfz23_3,hfz23_4,hfz23_5⟩:=fz6 BK562.out)|(refine g_C 33 ?_;refine gL (some 18) Tryz.func33 #[.slice A0_5 l0_5.length c0_5] ?_;(with_reducible refine(laws_toPutS.calls ?side1 ?side2 A5.out).mono ?_);(case side1=>exact Kd.C_below HR0_5.out TB);(case side2=>exact HC0_5.out);rintro e w24 ⟨v575,rfl,ho0,hb⟩;refine⟨_,rfl,?_⟩;have HO576:=aM (Kd.S_lower (Kd.S_new' (Kd.S_new' ho0 (Kd.R_lt (TY HO567 BK564))) (Kd.R_lt (TY HO570 BK564))) (below_size TB));replace HO567:=aM (Kd.R_below (TY HO567 BK564) hb);replace HO570:=aM (Kd.R_below (TY HO570 BK564) hb);replace BK562:=mB BK562 hb;replace BK563:=mB BK563 hb;replace BK564:=aM (blk_below (g:=gb564) (o:=.cells #[.slice Ao13 t565.length co13,.slice Ao18 t568.length co18,.int .i64 t571,.int .i64 t572,.int .i64 t573,.slice none 0 0] 39 (0,0)) (blk_put (blk_put (blk_put (cs:=#[.slice Ao13 t565.length co13,.slice Ao18 t568.length co18,.int .i64 0,.int .i64 0,.int .i64 0,.slice none 0 0]) (TZ BK564) 2 _ rfl) 3 _ rfl) 4 _ rfl) hb);replace HB:=bS HB hb;clear ho0 hb;obtain⟨Ao25,co25,eo25⟩:=Kd.S_slice HO576.out;subst eo25;obtain⟨hcz26_0,hcz26_1,hcz26_2,hcz26_3,hcz26_4,hcz26_5⟩:=cz6 BK564.out;obtain⟨hfz26_0,hfz26_1,hfz26_2,hfz26_3,hfz26_4,hfz26_5⟩:=fz6 BK564.out;obtain⟨hcz27_0,hcz27_1,hcz27_2,hcz27_3,hcz27_4,hcz27_5⟩:=cz6 BK563.out;obtain⟨hfz27_0,hfz27_1,hfz27_2,hfz27_3,hfz27_4,hfz27_5⟩:=fz6 BK563.out))
  refine bodyPost_ret (results_cell_row rfl _ _ gb563 39 #[.slice Ao13 t565.length co13,.slice Ao18 t568.length co18,.int .i64 t571,.int .i64 t572,.int .i64 t573,.slice Ao25 t574.length co25] (0,0) _ rfl (blk_put (blk_put (blk_put (blk_put (blk_put (blk_put (cs:=#[.slice none 0 0,.slice none 0 0,.int .i64 0,.int .i64 0,.int .i64 0,.slice none 0 0]) (TZ BK563) 0 _ rfl) 1 _ rfl) 2 _ rfl) 3 _ rfl) 4 _ rfl) 5 _ rfl) Tryz.underlying39 rfl (by kernel_rfl)) rfl ?_
  exact⟨_,_,_,TE,by (with_reducible repeat (first|apply Kd.R_alloc|apply Kd.R_drewN|apply Kd.R_drew));exact Kd.R_mono (RK2 (Kd.R_types (Kd.R_types HO567.out BK564.out (by decide)) BK563.out (by decide))) (fun _ hk=>hk.1.1.2),by (with_reducible repeat (first|apply Kd.R_alloc|apply Kd.R_drewN|apply Kd.R_drew));exact Kd.R_mono (RK2 (Kd.R_types (Kd.R_types HO570.out BK564.out (by decide)) BK563.out (by decide))) (fun _ hk=>hk.1.1.2),by (with_reducible repeat (first|apply Kd.S_alloc|apply Kd.S_drewN|apply Kd.S_drew));exact Kd.S_mono (SK2 (Kd.S_types (Kd.S_types HO576.out BK564.out (by decide)) BK563.out (by decide))) (fun _ hk=>⟨hk.1.1.1.2,hk.1.1.2⟩),TB⟩
def laws_toSum.f (a0_0:Int)(a0_1:Int):Option (Int×Int):=some (a0_0,a0_1)
theorem laws_toSum.calls {a0_0:Int}{a0_1:Int}{r1:Int}{r2:Int}{w:World}(h:laws_toSum.f a0_0 a0_1=some (r1,r2)):
    Calls Tryz.prog 63 #[.agg #[.int .i64 a0_0,.int .i64 a0_1]] w fun e w'=>e=.returned (.agg #[.int .i64 r1,.int .i64 r2])∧Below w.heap.size w w':=by
  have hu98:=Tryz.underlying98
  have hu96:=Tryz.underlying96
  have HB:=aM (Below.refl w.heap.size w)
  have H:=h
  clear h
  unfold laws_toSum.f at H
  simp only[Option.some.injEq,Prod.mk.injEq] at H
  obtain⟨rfl,rfl⟩:=H
  go_enter Tryz.func63,Tryz.ntmps63
  go_wp2_with (first|(refine g_D 1 ?_;refine gBx 1 #[.int .i64 a0_0,.int .i64 a0_1] 98 ?_;intro gb577 hg w2 hbox hb;have BK577:=aM (hbox);have GW577:=gW HB hg;have GE577:=gW HB hg;replace HB:=bS HB hb;clear hb hbox hg)|(refine g_D 2 ?_;refine gBx 2 #[.int .i64 0,.int .i64 0] 96 ?_;intro gb578 hg w3 hbox hb;have BK578:=aM (hbox);have GW578:=gW HB hg;have GE578:=gW HB hg;obtain⟨NB577_578,NB578_577⟩:=nB BK577 hg;replace BK577:=mB BK577 hb;replace HB:=bS HB hb;clear hb hbox hg)|(refine g_D 3 ?_;refine gBx 3 #[.int .i64 0,.int .i64 0] 96 ?_;intro gb579 hg w4 hbox hb;have BK579:=aM (hbox);have GW579:=gW HB hg;have GE579:=gW HB hg;obtain⟨NB577_579,NB579_577⟩:=nB BK577 hg;obtain⟨NB578_579,NB579_578⟩:=nB BK578 hg;replace BK577:=mB BK577 hb;replace BK578:=mB BK578 hb;replace HB:=bS HB hb;clear hb hbox hg;obtain⟨hnb5,hnc5⟩:=oB NB577_578;obtain⟨hnb6,hnc6⟩:=oB NB577_579;obtain⟨hcz7_0,hcz7_1⟩:=cz2 BK577.out;obtain⟨hfz7_0,hfz7_1⟩:=fz2 BK577.out;obtain⟨hnb8,hnc8⟩:=oB NB579_578;obtain⟨hcz9_0,hcz9_1⟩:=cz2 BK579.out;obtain⟨hfz9_0,hfz9_1⟩:=fz2 BK579.out;obtain⟨hcz10_0,hcz10_1⟩:=cz2 BK578.out;obtain⟨hfz10_0,hfz10_1⟩:=fz2 BK578.out))
  refine bodyPost_ret (results_cell_row rfl _ _ gb578 96 #[.int .i64 a0_0,.int .i64 a0_1] (0,0) _ rfl (blk_put (blk_put (cs:=#[.int .i64 0,.int .i64 0]) (TZ BK578) 0 _ rfl) 1 _ rfl) Tryz.underlying96 rfl (by kernel_rfl)) rfl ?_
  exact⟨TE,TB⟩
def laws_toSumS.l0 :Nat→List (S98)→List (S96)→Int→Option ((List (S96)))
  |0,_,_,_=>none
  |k+1,x0,x3,x4=>if x4<(x0.length:Int) then (if 0≤x4 then ((laws_toSum.f ((rd_T98 x0 x4).f0) ((rd_T98 x0 x4).f1)).bind fun bt584=>(if x4<(x3.length:Int) then (laws_toSumS.l0 k x0 (x3.set (x4:Int).toNat (⟨bt584.1,bt584.2⟩:S96)) (wrap64 (x4+1))) else (none))) else (none)) else (some x3)
def laws_toSumS.f (k:Nat)(l0:List (S98)):Option ((List (S96))):=if 0≤(l0.length:Int) then (if ((l0.length:Int):Int).toNat≤17592186044416 then (laws_toSumS.l0 k l0 (List.replicate ((l0.length:Int):Int).toNat z96) 0) else (none)) else (none)
theorem laws_toSumS.mono_l :∀k,(∀y0 y1 y2,LeO (laws_toSumS.l0 k y0 y1 y2) (laws_toSumS.l0 (k+1) y0 y1 y2))
  |0=>fun _ _ _ r h=>by simp [laws_toSumS.l0] at h
  | k+1=>by
    have ih0:=laws_toSumS.mono_l k
    · intro y0 y1 y2
      unfold laws_toSumS.l0
      exact LM
theorem laws_toSumS.mono :∀a0 k,LeO (laws_toSumS.f k a0) (laws_toSumS.f (k+1) a0):=by
  intro a0 k;have ih0:=laws_toSumS.mono_l k;unfold laws_toSumS.f;exact LM
theorem laws_toSumS.calls {k:Nat}{A0:Option Addr}{c0:Nat}{l0:List (S98)}{r:List (S96)}{w:World}(hr0:Kd.C k98 w A0 l0.length l0)(hc0:l0.length≤c0)(h:laws_toSumS.f k l0=some r):
  Calls Tryz.prog 34 #[.slice A0 l0.length c0] w fun e w'=>∃v0_:Value,e=.returned (v0_)∧Kd.R k96 96 w' w.heap.size (fun _=>True) v0_ r∧Below w.heap.size w w':=by
 have hu98:=Tryz.underlying98;have hu96:=Tryz.underlying96;have HRq1:=aM hr0;have HCq1:=aM hc0;clear hr0 hc0;have HB:=aM (Below.refl w.heap.size w);have H:=h;clear h;unfold laws_toSumS.f at H;replace H:=ifN H;obtain⟨cq1,H⟩:=H;have cq2:=eq_true cq1;have cq3:decide (0≤(l0.length:Int))=true:=decide_eq_true cq1;clear cq1;replace H:=ifN H;obtain⟨cq4,H⟩:=H;have cq5:=eq_true cq4;have cq6:decide (((l0.length:Int):Int).toNat≤17592186044416)=true:=decide_eq_true cq4;clear cq4;obtain⟨yq1,af⟩:∃y_:List (S96),y_=(List.replicate ((l0.length:Int):Int).toNat z96):=⟨_,rfl⟩;rw[← af] at H;have Nyq1:=aM af;clear af;have H':=aM H;clear H;go_enter Tryz.func34,Tryz.ntmps34;go_wp2_with (first|(refine g_D 7 ?_;refine Kd.R_make k96 _ 96 rfl (N:=7) rfl 43 _ _ rfl (l0.length:Int) rfl rfl Tryz.underlying43 (.agg #[(.int .i64 0),(.int .i64 0)]) 16 info96 rfl (by decide) (by omega) z96 (ok:=fun _=>True) (okp:=fun _=>True) (k96_mkM _ _ _ z96) (fun _ hk=>hk) trivial DT (Nat.le_trans (Nat.mul_le_mul_right _ (DT:(l0.length:Int).toNat≤17592186044416)) (by omega)) (Below.refl _ _) (Nat.le_refl _) ?_;intro vq1 w4 ab hb hg_ hnew_;clear hg_ hnew_;(first|rw[← Nyq1.out] at ab|(simp only[Int.reduceToNat] at ab;rw[← Nyq1.out] at ab));have HOq1:=aM (Kd.R_lower ab (below_size TB));replace HB:=bS HB hb;clear hb ab))
 go_loopg [4] k (fun kq vq2 w'=>∃(xq1:List (S96)) (xq2:Int),vq2=.int .i64 xq2∧Aside0 (laws_toSumS.l0 kq l0 xq1 xq2=some r)∧Aside0 (kq≤k)∧Aside0 (Kd.R k96 96 w' w.heap.size (fun _=>True) vq1 xq1)∧Aside0 (Below w.heap.size w w'))
 case atStart=>exact⟨(yq1),(0),TF,H',⟨Nat.le_refl _⟩,⟨by have X_:=HOq1.out;exact TR⟩,⟨TB⟩⟩
 case round=>
  clear H';try clear cq1
  try clear cq2
  try clear cq3
  try clear cq4
  try clear cq5
  try clear cq6
  obtain⟨xq1,xq2,rfl,HA,HKq1,aa,HB⟩:=hrel;cases gk with
  |zero=>exact absurd HA.out (by simp [laws_toSumS.l0])
  | succ k1=>
   have H:=HA.out;clear HA;simp only[laws_toSumS.l0] at H
   by_cases cq7:xq2<(l0.length:Int)
   ·rw[if_pos cq7] at H;have cq8:decide (xq2<(l0.length:Int))=true:=decide_eq_true cq7;clear cq7;replace H:=ifN H;obtain⟨cq9,H⟩:=H;have cq10:decide (0≤xq2)=true:=decide_eq_true cq9;clear cq9;replace H:=bE H;obtain⟨⟨tq1,tq2⟩,Aq1,H⟩:=H;dsimp only at H;replace H:=ifN H;obtain⟨cq11,H⟩:=H;have cq12:decide (xq2<(xq1.length:Int))=true:=decide_eq_true cq11;clear cq11;obtain⟨yq2,ad⟩:∃y_:List (S96),y_=(xq1.set (xq2:Int).toNat (⟨tq1,tq2⟩:S96)):=⟨_,rfl⟩;rw[← ad] at H;have Nyq2:=aM ad;clear ad;have H':=aM H;clear H;have pq2:0≤(xq2:Int):=DT;have qq1:xq2<(l0.length:Int):=DT;obtain⟨adq1,eq1,ac,ae⟩:=at_T98 HRq1.out xq2 pq2 qq1;cases eq1;replace ac:=(HB.out.cell (World.block_lt_of_cell? w _ ac)).trans ac;replace ae:=(HB.out.cell (World.block_lt_of_cell? w _ ae)).trans ae;replace pq2:=eq_true pq2;replace qq1:=eq_true qq1;go_wp2_with (first|(refine g_C 63 ?_;refine gL (some 20) Tryz.func63 #[.agg #[.int .i64 ((rd_T98 l0 xq2).f0),.int .i64 ((rd_T98 l0 xq2).f1)]] ?_;(with_reducible refine(laws_toSum.calls Aq1.out).mono ?_);rintro e wq1 ⟨rfl,hb⟩;refine⟨_,rfl,?_⟩;replace aa:=mR aa hb;replace HB:=bS HB hb;clear hb;have pq3:0≤(xq2:Int):=DT;have qq2:(xq2:Int)<((xq1.length:Int):Int):=DT;obtain⟨goq1,coq1,eoq1,gbq1,glq1,clq1,HGq1⟩:=Kd.R_form aa.out (by omega);(first|cases eoq1|(injection eoq1 with ea_ en_ ec_;(first|subst ea_|(injection ea_ with ea_;subst ea_));subst ec_;clear en_));have GBq1:=aM gbq1;have GGq1:=aM HGq1;clear gbq1 glq1 HGq1;obtain⟨ceq1,hclq1,hMq1,hccq1,hfrq1⟩:=Kd.R_elem aa.out z96 (xq2:Int) pq3 qq2;obtain rfl:=k96_openM hMq1;have hxq3:wq1.cell? ⟨goq1,(xq2:Int).toNat * 2,none⟩=some (.int .i64 ((rd_T96 xq1 xq2).f0)):=hccq1 0 _ rfl;have hxq4:wq1.cell? ⟨goq1,(xq2:Int).toNat * 2+1,none⟩=some (.int .i64 ((rd_T96 xq1 xq2).f1)):=hccq1 1 _ rfl;have hfq1:wq1.frozen? ⟨goq1,(xq2:Int).toNat * 2,none⟩=false:=hfrq1 0;have hfq2:wq1.frozen? ⟨goq1,(xq2:Int).toNat * 2+1,none⟩=false:=hfrq1 1;clear hclq1 hccq1 hfrq1 hMq1;replace pq3:=eq_true pq3;replace qq2:=eq_true qq2;have HXq1:=aM (show Kd.R k96 96 wq1 w.heap.size (fun _=>True) (.slice (some ⟨goq1,0,none⟩) xq1.length coq1) xq1 from(TRf aa));obtain⟨ceq2,hclq2,hMq2,hccq2,hfrq2⟩:=Kd.R_elem HXq1.out z96 (xq2:Int) DT (by have h_:(xq2:Int)<((xq1.length:Int):Int):=DT;first|exact h_|(have e_:=(Kd.R_reads' aa.out).1;omega)|simpa using h_);obtain rfl:=k96_openM hMq2;have HPq1:=Kd.R_seg HXq1.out (xq2:Int) DT (by have h_:(xq2:Int)<((xq1.length:Int):Int):=DT;first|exact h_|(have e_:=(Kd.R_reads' aa.out).1;omega)|simpa using h_) (seg:=[.int .i64 tq1,.int .i64 tq2]) (j:=0) hclq2 hccq2 (show 2≤2 from by decide) (x':=(⟨tq1,tq2⟩:S96)) (k96_mkM _ _ _ (⟨tq1,tq2⟩:S96)) (fun _ hk=>hk);have hxq5:=hccq2 0 _ rfl;(try simp only[show(k96).sz=2 from rfl,Nat.mul_one,Nat.add_zero] at hxq5);have hfq3:=hfrq2 0;(try simp only[show(k96).sz=2 from rfl,Nat.mul_one,Nat.add_zero] at hfq3);have hxq6:=hccq2 1 _ rfl;(try simp only[show(k96).sz=2 from rfl,Nat.mul_one,Nat.add_zero] at hxq6);have hfq4:=hfrq2 1;(try simp only[show(k96).sz=2 from rfl,Nat.mul_one,Nat.add_zero] at hfq4);clear hclq2 hccq2 hfrq2 hMq2)|((with_reducible refine gate_store (t:=96) (p:=21) rfl ?_);refine store_event (t:=96) (p:=21) (v:=?vo_w13) (w1:=((wq1.setCell ⟨goq1,(xq2:Int).toNat * 2,none⟩ (.int .i64 tq1)).setCell ⟨goq1,(xq2:Int).toNat * 2+1,none⟩ (.int .i64 tq2))) ?hg ?ho ?hn ?hr ?_;(case ho=>rfl);(case hg=>rfl);(case hn=>rfl);(case hr=>first|(go_simp;done)|(go_simp;rfl));intro wq2 hw;have hg:wq1.grownBy wq2 (some goq1):=(by rw[hw];exact HPq1.2);have hp_:Kd.R k96 96 wq2 w.heap.size (fun _=>True) (.slice (some ⟨goq1,0,none⟩) xq1.length coq1) yq2:=(by rw[hw,Nyq2.out];exact HPq1.1);clear HPq1;replace aa:=aM (hp_);replace HB:=aM ((by rw[hw];exact below_set (below_set (HB.out) GBq1.out) GBq1.out:Below w.heap.size w wq2));clear hg hw hp_))
    go_roundg k1
    case measure=>have:=HKq1.out;omega
    case rel=>exact⟨(yq2),(wrap64 (xq2+1)),TF,H',⟨by have:=HKq1.out;omega⟩,⟨by have X_:=aa.out;exact TR⟩,⟨TB⟩⟩
   ·rw[if_neg cq7] at H;have cq8:decide (xq2<(l0.length:Int))=false:=decide_eq_false cq7;clear cq7;obtain rfl:=o_I H;go_wp2
    go_ret
    exact⟨_,TE,by have X_:=aa.out;exact TR,TB⟩
def laws_toManifest.f (k:Nat)(a0_0:Int)(a0_1:Int)(a0_2:Int)(l0_3:List (S98)):Option (Int×Int×Int×(List (S96))):=(laws_toSumS.f k l0_3).bind fun t590=>(some (a0_0,a0_1,a0_2,t590))
theorem laws_toManifest.mono :∀a0 a1 a2 a3 k,LeO (laws_toManifest.f k a0 a1 a2 a3) (laws_toManifest.f (k+1) a0 a1 a2 a3):=by
  intro a0 a1 a2 a3 k;have m0_:=@laws_toSumS.mono;unfold laws_toManifest.f;exact LM
theorem laws_toManifest.calls {k:Nat}{a0_0:Int}{a0_1:Int}{a0_2:Int}{A0_3:Option Addr}{c0_3:Nat}{l0_3:List (S98)}{r1:Int}{r2:Int}{r3:Int}{r4:List (S96)}{w:World}(hr0_3:Kd.C k98 w A0_3 l0_3.length l0_3)(hc0_3:l0_3.length≤c0_3)(h:laws_toManifest.f k a0_0 a0_1 a0_2 l0_3=some (r1,r2,r3,r4)):
    Calls Tryz.prog 10 #[.agg #[.int .i64 a0_0,.int .i64 a0_1,.int .i64 a0_2,.slice A0_3 l0_3.length c0_3]] w fun e w'=>∃v3_:Value,e=.returned (.agg #[.int .i64 r1,.int .i64 r2,.int .i64 r3,v3_])∧Kd.R k96 96 w' w.heap.size (fun _=>True) v3_ r4∧Below w.heap.size w w':=by
  have hu30:=Tryz.underlying30
  have hu45:=Tryz.underlying45
  have HR0_3:=aM hr0_3
  have HC0_3:=aM hc0_3
  clear hr0_3 hc0_3
  have HB:=aM (Below.refl w.heap.size w)
  have H:=h
  clear h
  unfold laws_toManifest.f at H
  replace H:=bE H
  obtain⟨t590,A2,H⟩:=H
  simp only[Option.some.injEq,Prod.mk.injEq] at H
  obtain⟨rfl,rfl,rfl,rfl⟩:=H
  go_enter Tryz.func10,Tryz.ntmps10
  go_wp2_with (first|(refine g_D 1 ?_;refine gBx 1 #[.int .i64 a0_0,.int .i64 a0_1,.int .i64 a0_2,.slice A0_3 l0_3.length c0_3] 30 ?_;intro gb587 hg w3 hbox hb;have BK587:=aM (hbox);have GW587:=gW HB hg;have GE587:=gW HB hg;replace HB:=bS HB hb;clear hb hbox hg)|(refine g_D 2 ?_;refine gBx 2 #[.int .i64 0,.int .i64 0,.int .i64 0,.slice none 0 0] 45 ?_;intro gb588 hg w4 hbox hb;have BK588:=aM (hbox);have GW588:=gW HB hg;have GE588:=gW HB hg;obtain⟨NB587_588,NB588_587⟩:=nB BK587 hg;replace BK587:=mB BK587 hb;replace HB:=bS HB hb;clear hb hbox hg)|(refine g_D 3 ?_;refine gBx 3 #[.int .i64 0,.int .i64 0,.int .i64 0,.slice none 0 0] 45 ?_;intro gb589 hg w5 hbox hb;have BK589:=aM (hbox);have GW589:=gW HB hg;have GE589:=gW HB hg;obtain⟨NB587_589,NB589_587⟩:=nB BK587 hg;obtain⟨NB588_589,NB589_588⟩:=nB BK588 hg;replace BK587:=mB BK587 hb;replace BK588:=mB BK588 hb;replace HB:=bS HB hb;clear hb hbox hg;obtain⟨hnb6,hnc6⟩:=oB NB587_588;obtain⟨hnb7,hnc7⟩:=oB NB587_589;obtain⟨hcz8_0,hcz8_1,hcz8_2,hcz8_3⟩:=cz4 BK587.out;obtain⟨hfz8_0,hfz8_1,hfz8_2,hfz8_3⟩:=fz4 BK587.out;obtain⟨hnb9,hnc9⟩:=oB NB589_588;obtain⟨hcz10_0,hcz10_1,hcz10_2,hcz10_3⟩:=cz4 BK589.out;obtain⟨hfz10_0,hfz10_1,hfz10_2,hfz10_3⟩:=fz4 BK589.out)|(refine g_C 34 ?_;refine gL (some 15) Tryz.func34 #[.slice A0_3 l0_3.length c0_3] ?_;(with_reducible refine(laws_toSumS.calls ?side1 ?side2 A2.out).mono ?_);(case side1=>exact Kd.C_below HR0_3.out TB);(case side2=>exact HC0_3.out);rintro e w11 ⟨v591,rfl,ho0,hb⟩;refine⟨_,rfl,?_⟩;have HO592:=aM (Kd.R_lower ho0 (below_size TB));replace BK587:=mB BK587 hb;replace BK588:=mB BK588 hb;replace BK589:=aM (blk_below (g:=gb589) (o:=.cells #[.int .i64 a0_0,.int .i64 a0_1,.int .i64 a0_2,.slice none 0 0] 45 (0,0)) (blk_put (blk_put (blk_put (cs:=#[.int .i64 0,.int .i64 0,.int .i64 0,.slice none 0 0]) (TZ BK589) 0 _ rfl) 1 _ rfl) 2 _ rfl) hb);replace HB:=bS HB hb;clear ho0 hb;obtain⟨Ao12,co12,eo12⟩:=Kd.R_slice HO592.out;subst eo12;obtain⟨hcz13_0,hcz13_1,hcz13_2,hcz13_3⟩:=cz4 BK589.out;obtain⟨hfz13_0,hfz13_1,hfz13_2,hfz13_3⟩:=fz4 BK589.out;obtain⟨hcz14_0,hcz14_1,hcz14_2,hcz14_3⟩:=cz4 BK588.out;obtain⟨hfz14_0,hfz14_1,hfz14_2,hfz14_3⟩:=fz4 BK588.out))
  refine bodyPost_ret (results_cell_row rfl _ _ gb588 45 #[.int .i64 a0_0,.int .i64 a0_1,.int .i64 a0_2,.slice Ao12 t590.length co12] (0,0) _ rfl (blk_put (blk_put (blk_put (blk_put (cs:=#[.int .i64 0,.int .i64 0,.int .i64 0,.slice none 0 0]) (TZ BK588) 0 _ rfl) 1 _ rfl) 2 _ rfl) 3 _ rfl) Tryz.underlying45 rfl (by kernel_rfl)) rfl ?_
  exact⟨_,TE,by (with_reducible repeat (first|apply Kd.R_alloc|apply Kd.R_drewN|apply Kd.R_drew));exact Kd.R_mono (RK2 (Kd.R_types (Kd.R_types HO592.out BK589.out (by decide)) BK588.out (by decide))) (fun _ hk=>trivial),TB⟩
def laws_toBuild.f (k:Nat)(a0_0:Int)(l0_1:List Int):Option (Int×List Int):=(laws_toByteS.f k l0_1).bind fun t596=>(some (a0_0,t596))
theorem laws_toBuild.mono :∀a0 a1 k,LeO (laws_toBuild.f k a0 a1) (laws_toBuild.f (k+1) a0 a1):=by
  intro a0 a1 k;have m0_:=@laws_toByteS.mono;unfold laws_toBuild.f;exact LM
theorem laws_toBuild.calls {k:Nat}{a0_0:Int}{A0_1:Option Addr}{c0_1:Nat}{l0_1:List Int}{r1:Int}{r2:List Int}{w:World}(hr0_1:Kd.C (Kd.int .u8) w A0_1 l0_1.length l0_1)(hc0_1:l0_1.length≤c0_1)(h:laws_toBuild.f k a0_0 l0_1=some (r1,r2)):
    Calls Tryz.prog 11 #[.agg #[.int .i64 a0_0,.slice A0_1 l0_1.length c0_1]] w fun e w'=>∃v1_:Value,e=.returned (.agg #[.int .i64 r1,v1_])∧Kd.R (Kd.int .u8) 5 w' w.heap.size (fun _=>True) v1_ r2∧Below w.heap.size w w':=by
  have hu32:=Tryz.underlying32
  have hu47:=Tryz.underlying47
  have HR0_1:=aM hr0_1
  have HC0_1:=aM hc0_1
  clear hr0_1 hc0_1
  have HB:=aM (Below.refl w.heap.size w)
  have H:=h
  clear h
  unfold laws_toBuild.f at H
  replace H:=bE H
  obtain⟨t596,A2,H⟩:=H
  simp only[Option.some.injEq,Prod.mk.injEq] at H
  obtain⟨rfl,rfl⟩:=H
  go_enter Tryz.func11,Tryz.ntmps11
  go_wp2_with (first|(refine g_D 1 ?_;refine gBx 1 #[.int .i64 a0_0,.slice A0_1 l0_1.length c0_1] 32 ?_;intro gb593 hg w3 hbox hb;have BK593:=aM (hbox);have GW593:=gW HB hg;have GE593:=gW HB hg;replace HB:=bS HB hb;clear hb hbox hg)|(refine g_D 2 ?_;refine gBx 2 #[.int .i64 0,.slice none 0 0] 47 ?_;intro gb594 hg w4 hbox hb;have BK594:=aM (hbox);have GW594:=gW HB hg;have GE594:=gW HB hg;obtain⟨NB593_594,NB594_593⟩:=nB BK593 hg;replace BK593:=mB BK593 hb;replace HB:=bS HB hb;clear hb hbox hg)|(refine g_D 3 ?_;refine gBx 3 #[.int .i64 0,.slice none 0 0] 47 ?_;intro gb595 hg w5 hbox hb;have BK595:=aM (hbox);have GW595:=gW HB hg;have GE595:=gW HB hg;obtain⟨NB593_595,NB595_593⟩:=nB BK593 hg;obtain⟨NB594_595,NB595_594⟩:=nB BK594 hg;replace BK593:=mB BK593 hb;replace BK594:=mB BK594 hb;replace HB:=bS HB hb;clear hb hbox hg;obtain⟨hnb6,hnc6⟩:=oB NB593_594;obtain⟨hnb7,hnc7⟩:=oB NB593_595;obtain⟨hcz8_0,hcz8_1⟩:=cz2 BK593.out;obtain⟨hfz8_0,hfz8_1⟩:=fz2 BK593.out;obtain⟨hnb9,hnc9⟩:=oB NB595_594;obtain⟨hcz10_0,hcz10_1⟩:=cz2 BK595.out;obtain⟨hfz10_0,hfz10_1⟩:=fz2 BK595.out)|(refine g_C 31 ?_;refine gL (some 9) Tryz.func31 #[.slice A0_1 l0_1.length c0_1] ?_;(with_reducible refine(laws_toByteS.calls ?side1 ?side2 A2.out).mono ?_);(case side1=>exact Kd.C_below HR0_1.out TB);(case side2=>exact HC0_1.out);rintro e w11 ⟨v597,rfl,ho0,hb⟩;refine⟨_,rfl,?_⟩;have HO598:=aM (Kd.R_lower ho0 (below_size TB));replace BK593:=mB BK593 hb;replace BK594:=mB BK594 hb;replace BK595:=aM (blk_below (g:=gb595) (o:=.cells #[.int .i64 a0_0,.slice none 0 0] 47 (0,0)) (blk_put (cs:=#[.int .i64 0,.slice none 0 0]) (TZ BK595) 0 _ rfl) hb);replace HB:=bS HB hb;clear ho0 hb;obtain⟨Ao12,co12,eo12⟩:=Kd.R_slice HO598.out;subst eo12;obtain⟨hcz13_0,hcz13_1⟩:=cz2 BK595.out;obtain⟨hfz13_0,hfz13_1⟩:=fz2 BK595.out;obtain⟨hcz14_0,hcz14_1⟩:=cz2 BK594.out;obtain⟨hfz14_0,hfz14_1⟩:=fz2 BK594.out))
  refine bodyPost_ret (results_cell_row rfl _ _ gb594 47 #[.int .i64 a0_0,.slice Ao12 t596.length co12] (0,0) _ rfl (blk_put (blk_put (cs:=#[.int .i64 0,.slice none 0 0]) (TZ BK594) 0 _ rfl) 1 _ rfl) Tryz.underlying47 rfl (by kernel_rfl)) rfl ?_
  exact⟨_,TE,by (with_reducible repeat (first|apply Kd.R_alloc|apply Kd.R_drewN|apply Kd.R_drew));exact Kd.R_mono (RK2 (Kd.R_types (Kd.R_types HO598.out BK595.out (by decide)) BK594.out (by decide))) (fun _ hk=>trivial),TB⟩
def impl_within.f (a0:Int)(a1:Int)(a2:Int):Option (Bool):=if a0≥a1 then (some (decide (a0≤a2))) else (some false)
theorem impl_within.calls {a0:Int}{a1:Int}{a2:Int}{r:Bool}{w:World}(h:impl_within.f a0 a1 a2=some r):
    Calls Tryz.prog 106 #[.int .i64 a0,.int .i64 a1,.int .i64 a2] w fun e w'=>e=.returned (.bool r)∧Drawn0 w w':=by
  have H:=h
  clear h
  unfold impl_within.f at H
  by_cases c4:a0≥a1
  · rw[if_pos c4] at H
    have c4b0:decide (a1≤a0)=true:=decide_eq_true c4
    clear c4
    obtain rfl:=o_I H
    go_enter Tryz.func106,Tryz.ntmps106
    go_wp2
    go_ret
    exact⟨by first|rfl|(simp;done)|(simp [*];done),TD⟩
  · rw[if_neg c4] at H
    have c4b0:decide (a1≤a0)=false:=decide_eq_false c4
    clear c4
    obtain rfl:=o_I H
    go_enter Tryz.func106,Tryz.ntmps106
    go_wp2
    go_ret
    exact⟨by first|rfl|(simp;done)|(simp [*];done),TD⟩
def impl_SizeOk.f (a0:Int)(a1:Int):Option (Bool):=(impl_within.f a0 2 6).bind fun t599=>(if t599=true then ((impl_within.f a1 0 (wrap64 (40 * a0))).bind fun t600=>(some t600)) else (some false))
theorem impl_SizeOk.calls {a0:Int}{a1:Int}{r:Bool}{w:World}(h:impl_SizeOk.f a0 a1=some r):
    Calls Tryz.prog 67 #[.int .i64 a0,.int .i64 a1] w fun e w'=>e=.returned (.bool r)∧Drawn0 w w':=by
  have H:=h
  clear h
  unfold impl_SizeOk.f at H
  replace H:=bE H
  obtain⟨t599,A3,H⟩:=H
  by_cases c4:t599=true
  · subst c4
    replace H:=ifT H
    replace H:=bE H
    obtain⟨t600,A5,H⟩:=H
    obtain rfl:=o_I H
    go_enter Tryz.func67,Tryz.ntmps67
    go_wp2_with (first|(refine g_C 106 ?_;refine gL (some 6) Tryz.func106 #[.int .i64 a0,.int .i64 2,.int .i64 6] ?_;(with_reducible refine(impl_within.calls A3.out).mono ?_);rintro e w' ⟨rfl,⟨nd,rfl⟩⟩;refine⟨_,rfl,?_⟩)|(go_at_call 106;(with_reducible refine(impl_within.calls A5.out).mono ?_);rintro e w' ⟨rfl,⟨nd,rfl⟩⟩))
    go_ret
    exact⟨by first|rfl|(simp;done)|(simp [*];done),TD⟩
  · replace c4:=b_F c4
    subst c4
    replace H:=ifF H
    obtain rfl:=o_I H
    go_enter Tryz.func67,Tryz.ntmps67
    go_wp2_with (first|(refine g_C 106 ?_;refine gL (some 6) Tryz.func106 #[.int .i64 a0,.int .i64 2,.int .i64 6] ?_;(with_reducible refine(impl_within.calls A3.out).mono ?_);rintro e w' ⟨rfl,⟨nd,rfl⟩⟩;refine⟨_,rfl,?_⟩))
    go_ret
    exact⟨by first|rfl|(simp;done)|(simp [*];done),TD⟩
def impl_CeilDiv.f (a0:Int)(a1:Int):Option (Int):=(impl_within.f a0 0 1000000000000).bind fun t601=>(if t601=true then ((impl_within.f a1 1 1000000000000).bind fun t602=>(if t602=true then (if a1=0 then (none) else (some (wrap64 (Int.tdiv (wrap64 ((wrap64 (a0+a1)) - 1)) a1)))) else (some 0))) else (some 0))
theorem impl_CeilDiv.calls {a0:Int}{a1:Int}{r:Int}{w:World}(h:impl_CeilDiv.f a0 a1=some r):
    Calls Tryz.prog 107 #[.int .i64 a0,.int .i64 a1] w fun e w'=>e=.returned (.int .i64 r)∧Drawn0 w w':=by
  have H:=h
  clear h
  unfold impl_CeilDiv.f at H
  replace H:=bE H
  obtain⟨t601,A3,H⟩:=H
  by_cases c4:t601=true
  · subst c4
    replace H:=ifT H
    replace H:=bE H
    obtain⟨t602,A5,H⟩:=H
    by_cases c6:t602=true
    · subst c6
      replace H:=ifT H
      replace H:=ifM H
      obtain⟨c7,H⟩:=H
      have c7b0:(a1==0)=false:=beq_eq_false_iff_ne.mpr c7
      have c7b1:(a1 != 0)=true:=bne_iff_ne.mpr c7
      obtain rfl:=o_I H
      go_enter Tryz.func107,Tryz.ntmps107
      go_wp2_with (first|(refine g_C 106 ?_;refine gL (some 6) Tryz.func106 #[.int .i64 a0,.int .i64 0,.int .i64 1000000000000] ?_;(with_reducible refine(impl_within.calls A3.out).mono ?_);rintro e w' ⟨rfl,⟨nd,rfl⟩⟩;refine⟨_,rfl,?_⟩)|(go_at_call 106;(with_reducible refine(impl_within.calls A5.out).mono ?_);rintro e w' ⟨rfl,⟨nd,rfl⟩⟩))
      go_ret
      exact⟨by first|rfl|(simp;done)|(simp [*];done),TD⟩
    · replace c6:=b_F c6
      subst c6
      replace H:=ifF H
      obtain rfl:=o_I H
      go_enter Tryz.func107,Tryz.ntmps107
      go_wp2_with (first|(refine g_C 106 ?_;refine gL (some 6) Tryz.func106 #[.int .i64 a0,.int .i64 0,.int .i64 1000000000000] ?_;(with_reducible refine(impl_within.calls A3.out).mono ?_);rintro e w' ⟨rfl,⟨nd,rfl⟩⟩;refine⟨_,rfl,?_⟩)|(go_at_call 106;(with_reducible refine(impl_within.calls A5.out).mono ?_);rintro e w' ⟨rfl,⟨nd,rfl⟩⟩))
      go_ret
      exact⟨by first|rfl|(simp;done)|(simp [*];done),TD⟩
  · replace c4:=b_F c4
    subst c4
    replace H:=ifF H
    obtain rfl:=o_I H
    go_enter Tryz.func107,Tryz.ntmps107
    go_wp2_with (first|(refine g_C 106 ?_;refine gL (some 6) Tryz.func106 #[.int .i64 a0,.int .i64 0,.int .i64 1000000000000] ?_;(with_reducible refine(impl_within.calls A3.out).mono ?_);rintro e w' ⟨rfl,⟨nd,rfl⟩⟩;refine⟨_,rfl,?_⟩))
    go_ret
    exact⟨by first|rfl|(simp;done)|(simp [*];done),TD⟩
def impl_Blocks.f (a0:Int)(a1:Int):Option (Int):=(impl_SizeOk.f a0 a1).bind fun t603=>(if t603=true then ((impl_CeilDiv.f a1 a0).bind fun t604=>(some t604)) else (some 0))
theorem impl_Blocks.calls {a0:Int}{a1:Int}{r:Int}{w:World}(h:impl_Blocks.f a0 a1=some r):
    Calls Tryz.prog 68 #[.int .i64 a0,.int .i64 a1] w fun e w'=>e=.returned (.int .i64 r)∧Drawn0 w w':=by
  have H:=h
  clear h
  unfold impl_Blocks.f at H
  replace H:=bE H
  obtain⟨t603,A3,H⟩:=H
  by_cases c4:t603=true
  · subst c4
    replace H:=ifT H
    replace H:=bE H
    obtain⟨t604,A5,H⟩:=H
    obtain rfl:=o_I H
    go_enter Tryz.func68,Tryz.ntmps68
    go_wp2_with (first|(refine g_C 67 ?_;refine gL (some 7) Tryz.func67 #[.int .i64 a0,.int .i64 a1] ?_;(with_reducible refine(impl_SizeOk.calls A3.out).mono ?_);rintro e w' ⟨rfl,⟨nd,rfl⟩⟩;refine⟨_,rfl,?_⟩)|(refine g_C 107 ?_;refine gL (some 11) Tryz.func107 #[.int .i64 a1,.int .i64 a0] ?_;(with_reducible refine(impl_CeilDiv.calls A5.out).mono ?_);rintro e w' ⟨rfl,⟨nd,rfl⟩⟩;refine⟨_,rfl,?_⟩))
    go_ret
    exact⟨by first|rfl|(simp;done)|(simp [*];done),TD⟩
  · replace c4:=b_F c4
    subst c4
    replace H:=ifF H
    obtain rfl:=o_I H
    go_enter Tryz.func68,Tryz.ntmps68
    go_wp2_with (first|(refine g_C 67 ?_;refine gL (some 7) Tryz.func67 #[.int .i64 a0,.int .i64 a1] ?_;(with_reducible refine(impl_SizeOk.calls A3.out).mono ?_);rintro e w' ⟨rfl,⟨nd,rfl⟩⟩;refine⟨_,rfl,?_⟩))
    go_ret
    exact⟨by first|rfl|(simp;done)|(simp [*];done),TD⟩
def impl_SpanOf.f (a0:Int)(a1:Int)(a2:Int):Option (Int×Int):=(impl_Blocks.f a0 a1).bind fun t605=>((impl_within.f a2 0 (wrap64 (t605 - 1))).bind fun t606=>(if t606=true then (some (wrap64 (a2 * a0),mn a0 (wrap64 (a1 - (wrap64 (a2 * a0)))))) else (some (0,0))))
theorem impl_SpanOf.calls {a0:Int}{a1:Int}{a2:Int}{r1:Int}{r2:Int}{w:World}(h:impl_SpanOf.f a0 a1 a2=some (r1,r2)):
    Calls Tryz.prog 108 #[.int .i64 a0,.int .i64 a1,.int .i64 a2] w fun e w'=>e=.returned (.tuple #[.int .i64 r1,.int .i64 r2])∧Below w.heap.size w w':=by
  have HB:=aM (Below.refl w.heap.size w)
  have H:=h
  clear h
  unfold impl_SpanOf.f at H
  replace H:=bE H
  obtain⟨t605,A4,H⟩:=H
  replace H:=bE H
  obtain⟨t606,A5,H⟩:=H
  go_enter Tryz.func108,Tryz.ntmps108
  go_wp2_with (first|(refine g_C 68 ?_;refine gL (some 11) Tryz.func68 #[.int .i64 a0,.int .i64 a1] ?_;(with_reducible refine(impl_Blocks.calls A4.out).mono ?_);rintro e w' ⟨rfl,⟨nd,rfl⟩⟩;refine⟨_,rfl,?_⟩)|(refine g_C 106 ?_;refine gL (some 13) Tryz.func106 #[.int .i64 a2,.int .i64 0,.int .i64 (wrap64 (t605 - 1))] ?_;(with_reducible refine(impl_within.calls A5.out).mono ?_);rintro e w' ⟨rfl,⟨nd,rfl⟩⟩;refine⟨_,rfl,?_⟩)|(refine g_D 14 ?_;generalize hG_:wpList _ _ _ _ _ _=G_))
  subst hG_
  by_cases c7:t606=true
  · subst c7
    replace H:=ifT H
    obtain⟨ji8,hji8⟩:∃j_:Int,(mn a0 (wrap64 (a1 - (wrap64 (a2 * a0)))))=j_:=⟨_,rfl⟩
    (first|rw[hji8] at H|simp only[hji8] at H|skip)
    have hji8_:(if (wrap64 (a1 - (wrap64 (a2 * a0))))<a0 then (wrap64 (a1 - (wrap64 (a2 * a0)))) else a0)=ji8:=hji8
    simp only[Option.some.injEq,Prod.mk.injEq] at H
    obtain⟨rfl,rfl⟩:=H
    go_wp2
    go_ret2
    exact⟨by first|rfl|(simp [errW_none,errW_some]<;>rfl)|(simp only[← hji8];first|rfl|(simp [errW_none,errW_some]<;>rfl))|(simp [*,errW_none,errW_some]<;>rfl),TB⟩
  · replace c7:=b_F c7
    subst c7
    replace H:=ifF H
    simp only[Option.some.injEq,Prod.mk.injEq] at H
    obtain⟨rfl,rfl⟩:=H
    go_wp2
    go_ret2
    exact⟨TE,TB⟩
def impl_isZeroMan.f (a0_0:Int)(a0_1:Int)(a0_2:Int)(l0_3:List (S96)):Option (Bool):=if a0_0=0 then (if a0_1=0 then (if a0_2=0 then (some ((l0_3.length:Int)==0)) else (some false)) else (some false)) else (some false)
theorem Yq23_0 {p:Prop}(h:p:=by
 obtain rfl:=o_I H;go_enter Tryz.func115,Tryz.ntmps115;go_wp2_with (first|(refine g_D 1 ?_;(try (refine gate_guard (by rfl) ?_;dsimp only));refine gBx 1 #[.int .i64 ab,.int .i64 aa,.int .i64 ac,.slice af ad.length ae] 45 ?_;intro ag hg w5 hbox hb;have BKq1:=aM (hbox);have GWq1:=gW HB hg;have GEq1:=gW HB hg;replace HB:=bS HB hb;clear hb hbox hg;obtain⟨hczq1,hczq2,hczq3,hczq4⟩:=cz4 BKq1.out;obtain⟨hfzq1,hfzq2,hfzq3,hfzq4⟩:=fz4 BKq1.out))
 go_ret
 exact⟨TE,TB⟩):p:=h
theorem impl_isZeroMan.calls {ab:Int}{aa:Int}{ac:Int}{af:Option Addr}{ae:Nat}{ad:List (S96)}{r:Bool}{w:World}(ah:Kd.C k96 w af ad.length ad)(ai:ad.length≤ae)(h:impl_isZeroMan.f ab aa ac ad=some r):
  Calls Tryz.prog 115 #[.agg #[.int .i64 ab,.int .i64 aa,.int .i64 ac,.slice af ad.length ae]] w fun e w'=>e=.returned (.bool r)∧Below w.heap.size w w':=by
 have hu45:=Tryz.underlying45;have HR0_3:=aM ah;have HC0_3:=aM ai;clear ah ai;have HB:=aM (Below.refl w.heap.size w);have H:=h;clear h;unfold impl_isZeroMan.f at H
 by_cases cq1:ab=0
 ·rw[if_pos cq1] at H;have cq2:(ab==0)=true:=beq_iff_eq.mpr cq1;have cq3:(ab != 0)=false:=bne_eq_false_iff_eq.mpr cq1;clear cq1
  by_cases cq4:aa=0
  ·rw[if_pos cq4] at H;have cq5:(aa==0)=true:=beq_iff_eq.mpr cq4;have cq6:(aa != 0)=false:=bne_eq_false_iff_eq.mpr cq4;clear cq4
   by_cases c4:ac=0
   ·rw[if_pos c4] at H;have c4b0:(ac==0)=true:=beq_iff_eq.mpr c4;have cq7:(ac != 0)=false:=bne_eq_false_iff_eq.mpr c4;clear c4;exact Yq23_0
   ·rw[if_neg c4] at H;have c4b0:(ac==0)=false:=beq_eq_false_iff_ne.mpr c4;have cq7:(ac != 0)=true:=bne_iff_ne.mpr c4;exact Yq23_0
  ·rw[if_neg cq4] at H;have cq5:(aa==0)=false:=beq_eq_false_iff_ne.mpr cq4;have cq6:(aa != 0)=true:=bne_iff_ne.mpr cq4;exact Yq23_0
 ·rw[if_neg cq1] at H;have cq2:(ab==0)=false:=beq_eq_false_iff_ne.mpr cq1;have cq3:(ab != 0)=true:=bne_iff_ne.mpr cq1;exact Yq23_0
mutual
def impl_BytesOf.j1 :Nat→Int→Int→Option (List Int×Bool)
  |0,_,_=>none
  |k+1,x0,x4=>if x0<1 then (impl_BytesOf.j2 k x0 x4 true) else (if 0≤(wrap64 (8 * x4)) then (impl_BytesOf.j2 k x0 x4 ((shr .i64 x0 (wrap64 (8 * x4))) != 1)) else (none))
def impl_BytesOf.j2 :Nat→Int→Int→Bool→Option (List Int×Bool)
  |0,_,_,_=>none
  |k+1,x0,x4,x26=>if x26=true then (some (([]:List Int),false)) else (if 0≤x4 then (if (x4:Int).toNat≤281474976710656 then ((some (List.replicate (x4:Int).toNat 0:List Int)).bind fun y608=>(impl_BytesOf.l1 k x0 x4 y608 (y608.length:Int) 0)) else (none)) else (none))
def impl_BytesOf.l1 :Nat→Int→Int→List Int→Int→Int→Option (List Int×Bool)
  |0,_,_,_,_,_=>none
  |k+1,x0,x4,x5,x30,x31=>if x31<x30 then (if 0≤(wrap64 (8 * (wrap64 ((wrap64 (x4 - 1)) - x31)))) then (if 0≤x31 then (if x31<(x5.length:Int) then (impl_BytesOf.l1 k x0 x4 (x5.set (x31:Int).toNat ((shr .i64 x0 (wrap64 (8 * (wrap64 ((wrap64 (x4 - 1)) - x31))))) % 256)) x30 (wrap64 (x31+1))) else (none)) else (none)) else (none)) else (some (x5,true))
def impl_BytesOf.l0 :Nat→Int→Int→Option (List Int×Bool)
  |0,_,_=>none
  |k+1,x0,x4=>if x4<6 then (if 0≤(wrap64 (8 * x4)) then (if (shr .i64 x0 (wrap64 (8 * x4)))>1 then (impl_BytesOf.l0 k x0 (wrap64 (x4+1))) else (impl_BytesOf.j1 k x0 x4)) else (none)) else (impl_BytesOf.j1 k x0 x4)
end
def impl_BytesOf.f (k:Nat)(a0:Int):Option (List Int×Bool):=impl_BytesOf.l0 k a0 0
theorem impl_BytesOf.mono_l :∀k,(∀y0 y1,LeO (impl_BytesOf.j1 k y0 y1) (impl_BytesOf.j1 (k+1) y0 y1))∧(∀y0 y1 y2,LeO (impl_BytesOf.j2 k y0 y1 y2) (impl_BytesOf.j2 (k+1) y0 y1 y2))∧(∀y0 y1 y2 y3 y4,LeO (impl_BytesOf.l1 k y0 y1 y2 y3 y4) (impl_BytesOf.l1 (k+1) y0 y1 y2 y3 y4))∧(∀y0 y1,LeO (impl_BytesOf.l0 k y0 y1) (impl_BytesOf.l0 (k+1) y0 y1))
  |0=>⟨fun _ _ r h=>by simp [impl_BytesOf.j1] at h,fun _ _ _ r h=>by simp [impl_BytesOf.j2] at h,fun _ _ _ _ _ r h=>by simp [impl_BytesOf.l1] at h,fun _ _ r h=>by simp [impl_BytesOf.l0] at h⟩
  | k+1=>by
    obtain⟨ih0,ih1,ih2,ih3⟩:=impl_BytesOf.mono_l k
    refine⟨?_,?_,?_,?_⟩
    · intro y0 y1
      unfold impl_BytesOf.j1
      exact LM
    · intro y0 y1 y2
      unfold impl_BytesOf.j2
      exact LM
    · intro y0 y1 y2 y3 y4
      unfold impl_BytesOf.l1
      exact LM
    · intro y0 y1
      unfold impl_BytesOf.l0
      exact LM
theorem impl_BytesOf.mono :∀a0 k,LeO (impl_BytesOf.f k a0) (impl_BytesOf.f (k+1) a0):=by
  intro a0 k;obtain⟨ih0,ih1,ih2,ih3⟩:=impl_BytesOf.mono_l k;unfold impl_BytesOf.f;exact LM
theorem impl_BytesOf.calls {k:Nat}{a0:Int}{r1:List Int}{r2:Bool}{w:World}(h:impl_BytesOf.f k a0=some (r1,r2)):
    Calls Tryz.prog 116 #[.int .i64 a0] w fun e w'=>∃v0_:Value,e=.returned (.tuple #[v0_,.bool r2])∧Kd.R (Kd.int .u8) 5 w' w.heap.size (fun _=>True) v0_ r1∧Below w.heap.size w w':=by
  have HB:=aM (Below.refl w.heap.size w)
  have H:=h
  clear h
  unfold impl_BytesOf.f at H
  have HC2:=aM H
  clear H
  go_enter Tryz.func116,Tryz.ntmps116
  go_upto_block 0 with (fail)
  go_cut [4] (fun v4 wc=>∃(kq:Nat) (x4_1:Int),v4=.int .i64 x4_1∧Aside0 (impl_BytesOf.j1 kq a0 x4_1=some (r1,r2))∧Aside0 (kq≤k)∧Aside0 (Below w.heap.size w wc))
  case first=>
    have H:=HC2.out
    clear HC2
    have H':=aM H
    clear H
    go_wp2
    go_loopg [4] k (fun kq v4 w'=>∃(x4_1:Int),v4=.int .i64 x4_1∧Aside0 (impl_BytesOf.l0 kq a0 x4_1=some (r1,r2))∧Aside0 (kq≤k)∧Aside0 (Below w.heap.size w w'))
    case atStart=>exact⟨(0),TF,H',⟨Nat.le_refl _⟩,⟨TB⟩⟩
    case round=>
      clear H'
      try clear c1
      try clear p2
      obtain⟨x4_1,rfl,HA,HK1,HB⟩:=hrel
      cases gk with
      |zero=>exact absurd HA.out (by simp [impl_BytesOf.l0])
      | succ k1=>
        have H:=HA.out
        clear HA
        simp only[impl_BytesOf.l0] at H
        by_cases c3:x4_1<6
        · rw[if_pos c3] at H
          have c3b0:decide (x4_1<6)=true:=decide_eq_true c3
          clear c3
          (first|rw[c3b0]|(simp only[i64_w,i32_w];rw[c3b0])|skip)
          obtain⟨ji4,hji4⟩:∃j_:Int,(wrap64 (8 * x4_1))=j_:=⟨_,rfl⟩
          (first|rw[hji4] at H|simp only[hji4] at H|skip)
          have hji4w:(IntKind.i64.wrap (8 * x4_1))=ji4:=(i64_w _).trans hji4
          replace H:=ifN H
          obtain⟨c5,H⟩:=H
          have c5b0:=eq_true c5
          have c5b1:decide (0≤(ji4))=true:=decide_eq_true c5
          clear c5
          obtain⟨ji6,hji6⟩:∃j_:Int,(shr .i64 a0 (ji4))=j_:=⟨_,rfl⟩
          (first|rw[hji6] at H|simp only[hji6] at H|skip)
          have hji6_:(a0 / 2 ^ min (ji4).toNat 64)=ji6:=hji6
          have hji6z:(ji4)≤64→(a0 / 2 ^ (ji4).toNat)=ji6:=shr_small hji6
          by_cases c7:(ji6)>1
          · rw[if_pos c7] at H
            have c7b0:decide (1<(ji6))=true:=decide_eq_true c7
            clear c7
            have H':=aM H
            clear H
            go_wp2
            go_roundg k1
            case measure=>have:=HK1.out;omega
            case rel=>exact⟨(wrap64 (x4_1+1)),TF,H',⟨by have:=HK1.out;omega⟩,⟨TB⟩⟩
          · rw[if_neg c7] at H
            have c7b0:decide (1<(ji6))=false:=decide_eq_false c7
            clear c7
            have H':=aM H
            clear H
            go_wp2
            go_meet
            case rel=>exact⟨_,(x4_1),TF,H',⟨by have:=HK1.out;first|omega|exact Nat.le_refl _⟩,⟨TB⟩⟩
        · rw[if_neg c3] at H
          have c3b0:decide (x4_1<6)=false:=decide_eq_false c3
          clear c3
          (first|rw[c3b0]|(simp only[i64_w,i32_w];rw[c3b0])|skip)
          have H':=aM H
          clear H
          go_wp2
          go_meet
          case rel=>exact⟨_,(x4_1),TF,H',⟨by have:=HK1.out;first|omega|exact Nat.le_refl _⟩,⟨TB⟩⟩
  case rest=>
    clear HC2
    try clear c1
    try clear p2
    try clear c3
    try clear c3b0
    try clear c5
    try clear c5b0
    try clear c5b1
    try clear p6
    try clear c7
    try clear c7b0
    try clear p2
    obtain⟨kq,x4_1,rfl,HA,HJ1,HB⟩:=hcut
    cases kq with
    |zero=>exact absurd HA.out (by simp [impl_BytesOf.j1])
    | succ kj1=>
      have H:=HA.out
      clear HA
      simp only[impl_BytesOf.j1] at H
      have HC8:=aM H
      clear H
      go_upto_region 4 with (fail)
      go_cut [26] (fun v26 wc=>∃(kq:Nat) (x26_7:Bool),v26=.bool x26_7∧Aside0 (impl_BytesOf.j2 kq a0 x4_1 x26_7=some (r1,r2))∧Aside0 (kq≤kj1)∧Aside0 (Below w.heap.size w wc))
      case first=>
        have H:=HC8.out
        clear HC8
        by_cases c9:a0<1
        · rw[if_pos c9] at H
          have c9b0:decide (a0<1)=true:=decide_eq_true c9
          clear c9
          (first|rw[c9b0]|(simp only[i64_w,i32_w];rw[c9b0])|skip)
          have H':=aM H
          clear H
          go_wp2
          go_meet
          case rel=>exact⟨_,(true),TF,H',⟨by have:=HJ1.out;first|omega|exact Nat.le_refl _⟩,⟨TB⟩⟩
        · rw[if_neg c9] at H
          have c9b0:decide (a0<1)=false:=decide_eq_false c9
          clear c9
          (first|rw[c9b0]|(simp only[i64_w,i32_w];rw[c9b0])|skip)
          obtain⟨ji10,hji10⟩:∃j_:Int,(wrap64 (8 * x4_1))=j_:=⟨_,rfl⟩
          (first|rw[hji10] at H|simp only[hji10] at H|skip)
          have hji10w:(IntKind.i64.wrap (8 * x4_1))=ji10:=(i64_w _).trans hji10
          replace H:=ifN H
          obtain⟨c11,H⟩:=H
          have c11b0:=eq_true c11
          have c11b1:decide (0≤(ji10))=true:=decide_eq_true c11
          clear c11
          obtain⟨ji12,hji12⟩:∃j_:Int,(shr .i64 a0 (ji10))=j_:=⟨_,rfl⟩
          (first|rw[hji12] at H|simp only[hji12] at H|skip)
          have hji12_:(a0 / 2 ^ min (ji10).toNat 64)=ji12:=hji12
          have hji12z:(ji10)≤64→(a0 / 2 ^ (ji10).toNat)=ji12:=shr_small hji12
          have H':=aM H
          clear H
          go_wp2
          go_meet
          case rel=>exact⟨_,(((ji12) != 1)),(by first|rfl|(simp;done)|(simp only[← hji12]<;>(first|rfl|simp))|(simp [*];done)),H',⟨by have:=HJ1.out;first|omega|exact Nat.le_refl _⟩,⟨TB⟩⟩
      case rest=>
        clear HC8
        try clear c1
        try clear p2
        try clear c3
        try clear c3b0
        try clear c5
        try clear c5b0
        try clear c5b1
        try clear p6
        try clear c7
        try clear c7b0
        try clear c9
        try clear c9b0
        try clear c11
        try clear c11b0
        try clear c11b1
        try clear p2
        try clear p6
        obtain⟨kq,x26_7,rfl,HA,HJ7,HB⟩:=hcut
        cases kq with
        |zero=>exact absurd HA.out (by simp [impl_BytesOf.j2])
        | succ kj7=>
          have H:=HA.out
          clear HA
          simp only[impl_BytesOf.j2] at H
          by_cases c13:x26_7=true
          · subst c13
            replace H:=ifT H
            simp only[Option.some.injEq,Prod.mk.injEq] at H
            obtain⟨rfl,rfl⟩:=H
            go_wp2
            go_ret2
            exact⟨_,TE,by first|exact Kd.R_nil _ _ _ _ _|exact Kd.N_nil _ _ _ _ _|exact Kd.V_nil _ _ _ _ _|exact Kd.Q_nil _ _ _ _ _|exact Kd.S_nil _ _ _ _ _,TB⟩
          · replace c13:=b_F c13
            subst c13
            replace H:=ifF H
            replace H:=ifN H
            obtain⟨c14,H⟩:=H
            have c14b0:=eq_true c14
            have c14b1:decide (0≤x4_1)=true:=decide_eq_true c14
            clear c14
            replace H:=ifN H
            obtain⟨c15,H⟩:=H
            have c15b0:=eq_true c15
            have c15b1:decide ((x4_1:Int).toNat≤281474976710656)=true:=decide_eq_true c15
            clear c15
            obtain⟨y608,hy608⟩:∃y_:List Int,y_=(List.replicate (x4_1:Int).toNat 0):=⟨_,rfl⟩
            replace H:=someE H hy608
            have Ny608:=aM hy608
            clear hy608
            have H':=aM H
            clear H
            go_wp2_with (first|(refine g_D 28 ?_;refine Kd.R_make (Kd.int .u8) _ 5 rfl (N:=28) rfl 22 _ _ rfl x4_1 rfl rfl Tryz.underlying22 (.int .u8 0) 1 info5 rfl (by decide) (by omega) 0 (ok:=fun _=>True) (okp:=fun _=>True) rfl (fun _ hk=>hk) trivial DT (Nat.le_trans (Nat.mul_le_mul_right _ (DT:x4_1.toNat≤281474976710656)) (by omega)) (Below.refl _ _) (Nat.le_refl _) ?_;intro v609 w16 ho17 hb hg_ hnew_;clear hg_ hnew_;(first|rw[← Ny608.out] at ho17|(simp only[Int.reduceToNat] at ho17;rw[← Ny608.out] at ho17));have HO610:=aM (Kd.R_lower ho17 (below_size TB));replace HB:=bS HB hb;clear hb ho17;obtain⟨Ao18,co18,eo18⟩:=Kd.R_slice HO610.out;subst eo18))
            go_loopg [31] kj7 (fun kq v31 w'=>∃(x5_3:List Int) (x31_3:Int),v31=.int .i64 x31_3∧Aside0 (impl_BytesOf.l1 kq a0 x4_1 x5_3 (y608.length:Int) x31_3=some (r1,r2))∧Aside0 (kq≤kj7)∧Aside0 (Kd.R (Kd.int .u8) 5 w' w.heap.size (fun _=>True) (.slice Ao18 y608.length co18) x5_3)∧Aside0 (Below w.heap.size w w'))
            case atStart=>exact⟨(y608),(0),TF,H',⟨Nat.le_refl _⟩,⟨by have X_:=HO610.out;exact TR⟩,⟨TB⟩⟩
            case round=>
              clear H'
              try clear c1
              try clear p2
              try clear c3
              try clear c3b0
              try clear c5
              try clear c5b0
              try clear c5b1
              try clear p6
              try clear c7
              try clear c7b0
              try clear c9
              try clear c9b0
              try clear c11
              try clear c11b0
              try clear c11b1
              try clear c13
              try clear c14
              try clear c14b0
              try clear c14b1
              try clear c15
              try clear c15b0
              try clear c15b1
              try clear p2
              try clear p6
              obtain⟨x5_3,x31_3,rfl,HA,HK3,HO_5,HB⟩:=hrel
              have hl5_3:=(Kd.R_reads' HO_5.out).1
              rw[hl5_3] at HO_5
              (try simp only[hl5_3])
              cases gk with
              |zero=>exact absurd HA.out (by simp [impl_BytesOf.l1])
              | succ k3=>
                have H:=HA.out
                clear HA
                simp only[impl_BytesOf.l1] at H
                by_cases c19:x31_3<(y608.length:Int)
                · rw[if_pos c19] at H
                  have c19b0:decide (x31_3<(y608.length:Int))=true:=decide_eq_true c19
                  clear c19
                  obtain⟨ji20,hji20⟩:∃j_:Int,(wrap64 (8 * (wrap64 ((wrap64 (x4_1 - 1)) - x31_3))))=j_:=⟨_,rfl⟩
                  (first|rw[hji20] at H|simp only[hji20] at H|skip)
                  have hji20w:(IntKind.i64.wrap (8 * (wrap64 ((wrap64 (x4_1 - 1)) - x31_3))))=ji20:=(i64_w _).trans hji20
                  replace H:=ifN H
                  obtain⟨c21,H⟩:=H
                  have c21b0:=eq_true c21
                  have c21b1:decide (0≤(ji20))=true:=decide_eq_true c21
                  clear c21
                  obtain⟨ji22,hji22⟩:∃j_:Int,(shr .i64 a0 (ji20))=j_:=⟨_,rfl⟩
                  (first|rw[hji22] at H|simp only[hji22] at H|skip)
                  have hji22_:(a0 / 2 ^ min (ji20).toNat 64)=ji22:=hji22
                  have hji22z:(ji20)≤64→(a0 / 2 ^ (ji20).toNat)=ji22:=shr_small hji22
                  replace H:=ifN H
                  obtain⟨c23,H⟩:=H
                  have c23b0:decide (0≤x31_3)=true:=decide_eq_true c23
                  clear c23
                  replace H:=ifN H
                  obtain⟨c24,H⟩:=H
                  have c24b0:decide (x31_3<(x5_3.length:Int))=true:=decide_eq_true c24
                  clear c24
                  obtain⟨y611,hy611⟩:∃y_:List Int,y_=(x5_3.set (x31_3:Int).toNat ((ji22) % 256)):=⟨_,rfl⟩
                  rw[← hy611] at H
                  have Ny611:=aM hy611
                  clear hy611
                  have H':=aM H
                  clear H
                  have p25:0≤(x31_3:Int):=DT
                  have q25:(x31_3:Int)<((x5_3.length:Int):Int):=DT
                  obtain⟨go25,co25,eo25,gb25,gl25,cl25,HG25⟩:=Kd.R_form HO_5.out (by omega)
                  (first|cases eo25|(injection eo25 with ea_ en_ ec_;(first|subst ea_|(injection ea_ with ea_;subst ea_));subst ec_;clear en_))
                  have GB25:=aM gb25
                  have GG25:=aM HG25
                  clear gb25 gl25 HG25
                  obtain⟨hx25_0,hf25_0⟩:=Kd.R_celln 0 HO_5.out (x31_3:Int) p25 q25
                  replace p25:=eq_true p25
                  replace q25:=eq_true q25
                  have HP26:=Kd.R_putg HO_5.out (x31_3:Int) ((ji22) % 256)
                  go_wp2_with (first|((with_reducible refine gate_store (t:=5) (p:=44) rfl ?_);refine store_event (t:=5) (p:=44) (v:=?vo_w27) (w1:=(wr.setCell ⟨go25,(x31_3:Int).toNat,none⟩ (.int .u8 ((ji22) % 256)))) ?hg ?ho ?hn ?hr ?_;(case ho=>rfl);(case hg=>rfl);(case hn=>rfl);(case hr=>first|(go_simp;done)|(go_simp;rfl));intro w27 hw;have hg:wr.grownBy w27 (some go25):=(by rw[hw];exact HP26.2);have hp_:Kd.R (Kd.int .u8) 5 w27 w.heap.size (fun _=>True) (.slice (some ⟨go25,0,none⟩) x5_3.length co18) y611:=(by rw[hw,Ny611.out];exact HP26.1);clear HP26;replace HO_5:=aM (hp_);replace HB:=aM ((by rw[hw];exact below_set (HB.out) GB25.out:Below w.heap.size w w27));clear hg hw hp_))
                  (try simp only[← hl5_3])
                  go_roundg k3
                  case measure=>have:=HJ1.out;have:=HJ7.out;have:=HK3.out;omega
                  case rel=>exact⟨(y611),(wrap64 (x31_3+1)),TF,H',⟨by have:=HJ1.out;have:=HJ7.out;have:=HK3.out;omega⟩,⟨by (try simp only[hl5_3]);(with_reducible repeat (first|apply Kd.R_alloc|apply Kd.R_drewN|apply Kd.R_drew));exact HO_5.out⟩,⟨TB⟩⟩
                · rw[if_neg c19] at H
                  have c19b0:decide (x31_3<(y608.length:Int))=false:=decide_eq_false c19
                  (try rw[hl5_3] at c19b0)
                  clear c19
                  simp only[Option.some.injEq,Prod.mk.injEq] at H
                  obtain⟨rfl,rfl⟩:=H
                  go_wp2
                  go_ret2
                  exact⟨_,TE,by have X_:=HO_5.out;exact TR,TB⟩
def impl_Wrap.f (a0:Int)(a1:Int):Option (Int):=(impl_within.f a1 1 1000000000000).bind fun t612=>(if t612=true then (if a1=0 then (none) else (some (Int.tmod (wrap64 ((Int.tmod a0 a1)+a1)) a1))) else (some 0))
theorem impl_Wrap.calls {a0:Int}{a1:Int}{r:Int}{w:World}(h:impl_Wrap.f a0 a1=some r):
    Calls Tryz.prog 124 #[.int .i64 a0,.int .i64 a1] w fun e w'=>e=.returned (.int .i64 r)∧Drawn0 w w':=by
  have H:=h
  clear h
  unfold impl_Wrap.f at H
  replace H:=bE H
  obtain⟨t612,A3,H⟩:=H
  by_cases c4:t612=true
  · subst c4
    replace H:=ifT H
    replace H:=ifM H
    obtain⟨c5,H⟩:=H
    have c5b0:(a1==0)=false:=beq_eq_false_iff_ne.mpr c5
    have c5b1:(a1 != 0)=true:=bne_iff_ne.mpr c5
    obtain rfl:=o_I H
    go_enter Tryz.func124,Tryz.ntmps124
    go_wp2_with (first|(refine g_C 106 ?_;refine gL (some 6) Tryz.func106 #[.int .i64 a1,.int .i64 1,.int .i64 1000000000000] ?_;(with_reducible refine(impl_within.calls A3.out).mono ?_);rintro e w' ⟨rfl,⟨nd,rfl⟩⟩;refine⟨_,rfl,?_⟩))
    go_ret
    exact⟨by first|rfl|(simp;done)|(simp [*];done),TD⟩
  · replace c4:=b_F c4
    subst c4
    replace H:=ifF H
    obtain rfl:=o_I H
    go_enter Tryz.func124,Tryz.ntmps124
    go_wp2_with (first|(refine g_C 106 ?_;refine gL (some 6) Tryz.func106 #[.int .i64 a1,.int .i64 1,.int .i64 1000000000000] ?_;(with_reducible refine(impl_within.calls A3.out).mono ?_);rintro e w' ⟨rfl,⟨nd,rfl⟩⟩;refine⟨_,rfl,?_⟩))
    go_ret
    exact⟨by first|rfl|(simp;done)|(simp [*];done),TD⟩
def impl_weak.f (a0:Int)(a1:Int):Option (Int):=(impl_Wrap.f a0 251).bind fun t613=>((impl_Wrap.f a1 251).bind fun t614=>(some (wrap64 (t613+(wrap64 (251 * t614))))))
theorem impl_weak.calls {a0:Int}{a1:Int}{r:Int}{w:World}(h:impl_weak.f a0 a1=some r):
    Calls Tryz.prog 123 #[.int .i64 a0,.int .i64 a1] w fun e w'=>e=.returned (.int .i64 r)∧Drawn0 w w':=by
  have H:=h
  clear h
  unfold impl_weak.f at H
  replace H:=bE H
  obtain⟨t613,A3,H⟩:=H
  replace H:=bE H
  obtain⟨t614,A4,H⟩:=H
  obtain rfl:=o_I H
  go_enter Tryz.func123,Tryz.ntmps123
  go_wp2_with (first|(refine g_C 124 ?_;refine gL (some 6) Tryz.func124 #[.int .i64 a0,.int .i64 251] ?_;(with_reducible refine(impl_Wrap.calls A3.out).mono ?_);rintro e w' ⟨rfl,⟨nd,rfl⟩⟩;refine⟨_,rfl,?_⟩)|(refine g_C 124 ?_;refine gL (some 8) Tryz.func124 #[.int .i64 a1,.int .i64 251] ?_;(with_reducible refine(impl_Wrap.calls A4.out).mono ?_);rintro e w' ⟨rfl,⟨nd,rfl⟩⟩;refine⟨_,rfl,?_⟩))
  go_ret
  exact⟨by first|rfl|(simp;done)|(simp [*];done),TD⟩
def impl_WeakOf.l0 :Nat→Int→Int→List Int→Int→Int→Option (Int)
  |0,_,_,_,_,_=>none
  |k+1,x3,x4,x7,x8,x9=>if x9<x8 then (if 0≤x9 then (if x9<(x7.length:Int) then (impl_WeakOf.l0 k (Int.tmod (wrap64 (x3+(wrap64 (rd x7 x9)))) 251) (Int.tmod (wrap64 (x4+(Int.tmod (wrap64 (x3+(wrap64 (rd x7 x9)))) 251))) 251) x7 x8 (wrap64 (x9+1))) else (none)) else (none)) else ((impl_weak.f x3 x4).bind fun t616=>(some t616))
def impl_WeakOf.f (k:Nat)(l0:List Int):Option (Int):=impl_WeakOf.l0 k 0 0 l0 (l0.length:Int) 0
theorem impl_WeakOf.mono_l :∀k,(∀y0 y1 y2 y3 y4,LeO (impl_WeakOf.l0 k y0 y1 y2 y3 y4) (impl_WeakOf.l0 (k+1) y0 y1 y2 y3 y4))
  |0=>fun _ _ _ _ _ r h=>by simp [impl_WeakOf.l0] at h
  | k+1=>by
    have ih0:=impl_WeakOf.mono_l k
    · intro y0 y1 y2 y3 y4
      unfold impl_WeakOf.l0
      exact LM
theorem impl_WeakOf.mono :∀a0 k,LeO (impl_WeakOf.f k a0) (impl_WeakOf.f (k+1) a0):=by
  intro a0 k;have ih0:=impl_WeakOf.mono_l k;unfold impl_WeakOf.f;exact LM
theorem impl_WeakOf.calls {k:Nat}{A0:Option Addr}{c0:Nat}{l0:List Int}{r:Int}{w:World}(hr0:Kd.C (Kd.int .u8) w A0 l0.length l0)(hc0:l0.length≤c0)(h:impl_WeakOf.f k l0=some r):
  Calls Tryz.prog 117 #[.slice A0 l0.length c0] w fun e w'=>e=.returned (.int .i64 r)∧Drawn0 w w':=by
 have HRq1:=aM hr0;have HCq1:=aM hc0;clear hr0 hc0;have H:=h;clear h;unfold impl_WeakOf.f at H;have H':=aM H;clear H;go_enter Tryz.func117,Tryz.ntmps117;go_wp2
 go_loopg [3,4,9] k (fun kq vq1 v4 vq2 w'=>∃(xq1:Int) (aa:Int) (xq2:Int),vq1=.int .i64 xq1∧v4=.int .i64 aa∧vq2=.int .i64 xq2∧Aside0 (impl_WeakOf.l0 kq xq1 aa l0 (l0.length:Int) xq2=some r)∧Aside0 (kq≤k)∧Drawn0 w w')
 case atStart=>exact⟨(0),(0),(0),TF,TF,TF,H',⟨Nat.le_refl _⟩,TD⟩
 case round=>
  clear H';obtain⟨xq1,aa,xq2,rfl,rfl,rfl,HA,HK1,⟨mq1,rfl⟩⟩:=hrel;cases gk with
  |zero=>exact absurd HA.out (by simp [impl_WeakOf.l0])
  | succ k1=>
   have H:=HA.out;clear HA;simp only[impl_WeakOf.l0] at H
   by_cases cq1:xq2<(l0.length:Int)
   ·rw[if_pos cq1] at H;have cq2:decide (xq2<(l0.length:Int))=true:=decide_eq_true cq1;clear cq1;replace H:=ifN H;obtain⟨c3,H⟩:=H;have c3b0:decide (0≤xq2)=true:=decide_eq_true c3;clear c3;replace H:=ifN H;obtain⟨c4,H⟩:=H;have cq3:decide (xq2<(l0.length:Int))=true:=decide_eq_true c4;clear c4;have H':=aM H;clear H;have pq1:0≤(xq2:Int):=DT;have qq1:xq2<(l0.length:Int):=DT;obtain⟨adq1,eq1,hxq1⟩:=Kd.at_int HRq1.out xq2 pq1 qq1;cases eq1;replace pq1:=eq_true pq1;replace qq1:=eq_true qq1;go_wp2
    go_roundg k1
    case measure=>have:=HK1.out;omega
    case rel=>exact⟨(Int.tmod (wrap64 (xq1+(wrap64 (rd l0 xq2)))) 251),(Int.tmod (wrap64 (aa+(Int.tmod (wrap64 (xq1+(wrap64 (rd l0 xq2)))) 251))) 251),(wrap64 (xq2+1)),TF,TF,TF,H',⟨by have:=HK1.out;omega⟩,TD⟩
   ·rw[if_neg cq1] at H;have cq2:decide (xq2<(l0.length:Int))=false:=decide_eq_false cq1;clear cq1;replace H:=bE H;obtain⟨t616,Aq1,H⟩:=H;obtain rfl:=o_I H;go_wp2_with (first|(refine g_C 123 ?_;refine gL (some 25) Tryz.func123 #[.int .i64 xq1,.int .i64 aa] ?_;(with_reducible refine(impl_weak.calls Aq1.out).mono ?_);rintro e w' ⟨rfl,⟨nd,rfl⟩⟩;refine⟨_,rfl,?_⟩))
    go_ret
    exact⟨by first|rfl|(simp;done)|(simp [*];done),TD⟩
end Go.Proofs.YtjgmkkogmfogbaaGreat.Q
