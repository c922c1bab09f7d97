/- Functions of the program as plain Lean functions, and that a call of each comes to what its function tells. -/
import Derived.Test.YtjgmkkogmfogbaaGreatQ5
import Derived.Test.YtjgmkkogmfogbaaGreatQ41
import Derived.Test.YtjgmkkogmfogbaaGreatQ1
set_option maxHeartbeats 40000000
set_option maxRecDepth 100000
namespace Go.Proofs.YtjgmkkogmfogbaaGreat.Q
open Go.RowKit Go.Proofs.YtjgmkkogmfogbaaGreatW.PrintWords Go.Proofs.YtjgmkkogmfogbaaGreatW.PrintLast Go.Proofs.YtjgmkkogmfogbaaGreatW.PrintMore
attribute [local go_sem] min2_int min_two
set_option linter.unusedVariables false
set_option linter.unusedSimpArgs false
def laws_eqSum.f (a0_0:Int)(a0_1:Int)(a1_0:Int)(a1_1:Int):Option (Bool):=if a0_0=a1_0 then (if a0_1=a1_1 then (some true) else (some false)) else (some false)
theorem laws_eqSum.calls {a0_0:Int}{a0_1:Int}{a1_0:Int}{a1_1:Int}{r:Bool}{w:World}(h:laws_eqSum.f a0_0 a0_1 a1_0 a1_1=some r):
    Calls Tryz.prog 77 #[.agg #[.int .i64 a0_0,.int .i64 a0_1],.agg #[.int .i64 a1_0,.int .i64 a1_1]] w fun e w'=>e=.returned (.bool r)∧Below w.heap.size w w':=by
  have hu96:=Tryz.underlying96
  have HB:=aM (Below.refl w.heap.size w)
  have H:=h
  clear h
  unfold laws_eqSum.f at H
  by_cases c3:a0_0=a1_0
  · rw[if_pos c3] at H
    have c3b0:(a0_0==a1_0)=true:=beq_iff_eq.mpr c3
    have c3b1:(a0_0 != a1_0)=false:=bne_eq_false_iff_eq.mpr c3
    clear c3
    by_cases c4:a0_1=a1_1
    · rw[if_pos c4] at H
      have c4b0:(a0_1==a1_1)=true:=beq_iff_eq.mpr c4
      have c4b1:(a0_1 != a1_1)=false:=bne_eq_false_iff_eq.mpr c4
      clear c4
      obtain rfl:=o_I H
      go_enter Tryz.func77,Tryz.ntmps77
      go_wp2_with (first|(refine g_D 2 ?_;refine gBx 2 #[.int .i64 a0_0,.int .i64 a0_1] 96 ?_;intro gb1006 hg w5 hbox hb;have BK1006:=aM (hbox);have GW1006:=gW HB hg;have GE1006:=gW HB hg;replace HB:=bS HB hb;clear hb hbox hg)|(refine g_D 3 ?_;refine gBx 3 #[.int .i64 a1_0,.int .i64 a1_1] 96 ?_;intro gb1007 hg w6 hbox hb;have BK1007:=aM (hbox);have GW1007:=gW HB hg;have GE1007:=gW HB hg;obtain⟨NB1006_1007,NB1007_1006⟩:=nB BK1006 hg;replace BK1006:=mB BK1006 hb;replace HB:=bS HB hb;clear hb hbox hg;obtain⟨hnb7,hnc7⟩:=oB NB1006_1007;obtain⟨hcz8_0,hcz8_1⟩:=cz2 BK1006.out;obtain⟨hfz8_0,hfz8_1⟩:=fz2 BK1006.out;obtain⟨hcz9_0,hcz9_1⟩:=cz2 BK1007.out;obtain⟨hfz9_0,hfz9_1⟩:=fz2 BK1007.out))
      go_ret
      exact⟨TE,TB⟩
    · rw[if_neg c4] at H
      have c4b0:(a0_1==a1_1)=false:=beq_eq_false_iff_ne.mpr c4
      have c4b1:(a0_1 != a1_1)=true:=bne_iff_ne.mpr c4
      obtain rfl:=o_I H
      go_enter Tryz.func77,Tryz.ntmps77
      go_wp2_with (first|(refine g_D 2 ?_;refine gBx 2 #[.int .i64 a0_0,.int .i64 a0_1] 96 ?_;intro gb1006 hg w10 hbox hb;have BK1006:=aM (hbox);have GW1006:=gW HB hg;have GE1006:=gW HB hg;replace HB:=bS HB hb;clear hb hbox hg)|(refine g_D 3 ?_;refine gBx 3 #[.int .i64 a1_0,.int .i64 a1_1] 96 ?_;intro gb1007 hg w11 hbox hb;have BK1007:=aM (hbox);have GW1007:=gW HB hg;have GE1007:=gW HB hg;obtain⟨NB1006_1007,NB1007_1006⟩:=nB BK1006 hg;replace BK1006:=mB BK1006 hb;replace HB:=bS HB hb;clear hb hbox hg;obtain⟨hnb12,hnc12⟩:=oB NB1006_1007;obtain⟨hcz13_0,hcz13_1⟩:=cz2 BK1006.out;obtain⟨hfz13_0,hfz13_1⟩:=fz2 BK1006.out;obtain⟨hcz14_0,hcz14_1⟩:=cz2 BK1007.out;obtain⟨hfz14_0,hfz14_1⟩:=fz2 BK1007.out))
      go_ret
      exact⟨TE,TB⟩
  · rw[if_neg c3] at H
    have c3b0:(a0_0==a1_0)=false:=beq_eq_false_iff_ne.mpr c3
    have c3b1:(a0_0 != a1_0)=true:=bne_iff_ne.mpr c3
    obtain rfl:=o_I H
    go_enter Tryz.func77,Tryz.ntmps77
    go_wp2_with (first|(refine g_D 2 ?_;refine gBx 2 #[.int .i64 a0_0,.int .i64 a0_1] 96 ?_;intro gb1006 hg w15 hbox hb;have BK1006:=aM (hbox);have GW1006:=gW HB hg;have GE1006:=gW HB hg;replace HB:=bS HB hb;clear hb hbox hg)|(refine g_D 3 ?_;refine gBx 3 #[.int .i64 a1_0,.int .i64 a1_1] 96 ?_;intro gb1007 hg w16 hbox hb;have BK1007:=aM (hbox);have GW1007:=gW HB hg;have GE1007:=gW HB hg;obtain⟨NB1006_1007,NB1007_1006⟩:=nB BK1006 hg;replace BK1006:=mB BK1006 hb;replace HB:=bS HB hb;clear hb hbox hg;obtain⟨hnb17,hnc17⟩:=oB NB1006_1007;obtain⟨hcz18_0,hcz18_1⟩:=cz2 BK1006.out;obtain⟨hfz18_0,hfz18_1⟩:=fz2 BK1006.out;obtain⟨hcz19_0,hcz19_1⟩:=cz2 BK1007.out;obtain⟨hfz19_0,hfz19_1⟩:=fz2 BK1007.out))
    go_ret
    exact⟨TE,TB⟩
def laws_eqSumS.l0 :Nat→List (S96)→List (S96)→Int→Option (Bool)
  |0,_,_,_=>none
  |k+1,x0,x1,x5=>if x5<(x0.length:Int) then (if 0≤x5 then (if x5<(x1.length:Int) then ((laws_eqSum.f ((rd_T96 x0 x5).f0) ((rd_T96 x0 x5).f1) ((rd_T96 x1 x5).f0) ((rd_T96 x1 x5).f1)).bind fun t1010=>(if t1010=true then (laws_eqSumS.l0 k x0 x1 (wrap64 (x5+1))) else (some false))) else (none)) else (none)) else (some true)
def laws_eqSumS.f (k:Nat)(l0:List (S96))(l1:List (S96)):Option (Bool):=if (l0.length:Int)=(l1.length:Int) then (laws_eqSumS.l0 k l0 l1 0) else (some false)
theorem laws_eqSumS.mono_l :∀k,(∀y0 y1 y2,LeO (laws_eqSumS.l0 k y0 y1 y2) (laws_eqSumS.l0 (k+1) y0 y1 y2))
  |0=>fun _ _ _ r h=>by simp [laws_eqSumS.l0] at h
  | k+1=>by
    have ih0:=laws_eqSumS.mono_l k
    · intro y0 y1 y2
      unfold laws_eqSumS.l0
      exact LM
theorem laws_eqSumS.mono :∀a0 a1 k,LeO (laws_eqSumS.f k a0 a1) (laws_eqSumS.f (k+1) a0 a1):=by
  intro a0 a1 k;have ih0:=laws_eqSumS.mono_l k;unfold laws_eqSumS.f;exact LM
def laws_eqSumS.T6 :Bool×List (List Nat×List Nat):=(true,[([],[]),([],[]),([0,1],[0,1]),([2],[2]),([],[]),([],[]),([4,5],[4,5]),([6],[6]),([3,7],[3,7]),([8],[8])])
def laws_eqSumS.B6 :List Nat:=[0,0,3,7,0,0,48,112,255,511]
theorem laws_eqSumS.tab6 :rtab .any (opsOf Tryz.f44 6)=laws_eqSumS.T6:=by kernel_rfl
theorem laws_eqSumS.bits6 :waitsOk laws_eqSumS.T6.2 laws_eqSumS.B6=true:=by kernel_rfl
theorem laws_eqSumS.calls {k:Nat}{A0:Option Addr}{c0:Nat}{l0:List (S96)}{A1:Option Addr}{c1:Nat}{l1:List (S96)}{r:Bool}{w:World}(hr0:Kd.C k96 w A0 l0.length l0)(hc0:l0.length≤c0)(hr1:Kd.C k96 w A1 l1.length l1)(hc1:l1.length≤c1)(h:laws_eqSumS.f k l0 l1=some r):
    Calls Tryz.prog 44 #[.slice A0 l0.length c0,.slice A1 l1.length c1] w fun e w'=>e=.returned (.bool r)∧Below w.heap.size w w':=by
  have hu96:=Tryz.underlying96
  have HR0:=aM hr0
  have HC0:=aM hc0
  clear hr0 hc0
  have HR1:=aM hr1
  have HC1:=aM hc1
  clear hr1 hc1
  have HB:=aM (Below.refl w.heap.size w)
  have H:=h
  clear h
  unfold laws_eqSumS.f at H
  by_cases c3:(l0.length:Int)=(l1.length:Int)
  · rw[if_pos c3] at H
    have c3b0:((l0.length:Int)==(l1.length:Int))=true:=beq_iff_eq.mpr c3
    have c3b1:((l0.length:Int) != (l1.length:Int))=false:=bne_eq_false_iff_eq.mpr c3
    have c3b2:(l0.length==l1.length)=true:=by first|simpa using c3|(simp at c3 ⊢;omega)
    clear c3
    have H':=aM H
    clear H
    go_enter Tryz.func44,Tryz.ntmps44
    go_wp2
    go_loopg [5] k (fun kq v5 w'=>∃(x5_1:Int),v5=.int .i64 x5_1∧Aside0 (laws_eqSumS.l0 kq l0 l1 x5_1=some r)∧Aside0 (kq≤k)∧Aside0 (Below w.heap.size w w'))
    case atStart=>exact⟨(0),TF,H',⟨Nat.le_refl _⟩,⟨TB⟩⟩
    case round=>
      clear H'
      try clear c1
      try clear p2
      try clear c3
      try clear c3b0
      try clear c3b1
      try clear c3b2
      obtain⟨x5_1,rfl,HA,HK1,HB⟩:=hrel
      cases gk with
      |zero=>exact absurd HA.out (by simp [laws_eqSumS.l0])
      | succ k1=>
        have H:=HA.out
        clear HA
        simp only[laws_eqSumS.l0] at H
        by_cases c4:x5_1<(l0.length:Int)
        · rw[if_pos c4] at H
          have c4b0:decide (x5_1<(l0.length:Int))=true:=decide_eq_true c4
          clear c4
          replace H:=ifN H
          obtain⟨c5,H⟩:=H
          have c5b0:decide (0≤x5_1)=true:=decide_eq_true c5
          clear c5
          replace H:=ifN H
          obtain⟨c6,H⟩:=H
          have c6b0:decide (x5_1<(l1.length:Int))=true:=decide_eq_true c6
          clear c6
          replace H:=bE H
          obtain⟨t1010,A7,H⟩:=H
          try go_wp2
          replace HB:=aM (below_drew1 HB.out)
          have p1008:0≤(x5_1:Int):=DT
          have q1008:x5_1<(l0.length:Int):=DT
          obtain⟨ad1008,e1008,hx1008_0,hx1008_1⟩:=at_T96 HR0.out x5_1 p1008 q1008
          have hw1008_1:=hx1008_1
          have hw1008_0:=hx1008_0
          cases e1008
          replace hx1008_0:=(HB.out.cell (World.block_lt_of_cell? w _ hx1008_0)).trans hx1008_0
          replace hx1008_1:=(HB.out.cell (World.block_lt_of_cell? w _ hx1008_1)).trans hx1008_1
          replace p1008:=eq_true p1008
          replace q1008:=eq_true q1008
          have p1009:0≤(x5_1:Int):=DT
          have q1009:x5_1<(l1.length:Int):=DT
          obtain⟨ad1009,e1009,hx1009_0,hx1009_1⟩:=at_T96 HR1.out x5_1 p1009 q1009
          have hw1009_1:=hx1009_1
          have hw1009_0:=hx1009_0
          cases e1009
          replace hx1009_0:=(HB.out.cell (World.block_lt_of_cell? w _ hx1009_0)).trans hx1009_0
          replace hx1009_1:=(HB.out.cell (World.block_lt_of_cell? w _ hx1009_1)).trans hx1009_1
          replace p1009:=eq_true p1009
          replace q1009:=eq_true q1009
          refine start_ (n:=10) (S:=fun w'=>w'.cell? (ad1008.add ((x5_1).toNat * 2))=some (.int .i64 ((rd_T96 l0 x5_1).f0))∧w'.cell? ⟨(ad1008.add ((x5_1).toNat * 2)).block,(ad1008.add ((x5_1).toNat * 2)).off+1,none⟩=some (.int .i64 ((rd_T96 l0 x5_1).f1))∧w'.cell? (ad1009.add ((x5_1).toNat * 2))=some (.int .i64 ((rd_T96 l1 x5_1).f0))∧w'.cell? ⟨(ad1009.add ((x5_1).toNat * 2)).block,(ad1009.add ((x5_1).toNat * 2)).off+1,none⟩=some (.int .i64 ((rd_T96 l1 x5_1).f1))) (ds:=[]) (Array.replicate 10 false) (by kernel_rfl) rfl rfl ⟨(b_W HB hw1008_0),(b_W HB hw1008_1),(b_W HB hw1009_0),(b_W HB hw1009_1)⟩ (fun hHeld=>?_);refine with_tabW laws_eqSumS.tab6 laws_eqSumS.bits6 (fun HT_ HW_=>?_)
          generalize wr.drew=w9 at HB hx1008_0 hx1008_1 hx1009_0 hx1009_1 hHeld ⊢
          refine ppq 0 17 ?_
          refine ppq 1 18 ?_
          refine ppq 2 19 ?_
          refine ppq 4 21 ?_
          refine ppq 5 22 ?_
          refine ppq 6 23 ?_
          refine ptq 3 20 ?_
          refine ptq 7 24 ?_
          refine poq 8 25 (fun K hK=>?_)
          refine gG Tryz.func77 #[.agg #[.int .i64 ((rd_T96 l0 x5_1).f0),.int .i64 ((rd_T96 l0 x5_1).f1)],.agg #[.int .i64 ((rd_T96 l1 x5_1).f0),.int .i64 ((rd_T96 l1 x5_1).f1)]] ?_
          with_reducible refine(laws_eqSum.calls A7.out).mono ?_
          rintro e w10 ⟨rfl,hb⟩
          refine⟨_,rfl,?_⟩
          replace HB:=bS HB hb
          (try clear hb)
          (try clear hb2)
          (try clear hk)
          (try clear hi)
          refine hK.out _ _ ⟨(b_W HB hw1008_0),(b_W HB hw1008_1),(b_W HB hw1009_0),(b_W HB hw1009_1)⟩ (fun hHeld=>?_)
          clear hK K
          refine nR ?_
          refine ppq 9 26 ?_
          refine done_ (done_of HT_.out (by kernel_rfl)) ?_
          by_cases c8:t1010=true
          · subst c8
            replace H:=ifT H
            have H':=aM H
            clear H
            try go_wp2
            go_roundg k1
            case measure=>have:=HK1.out;omega
            case rel=>exact⟨(wrap64 (x5_1+1)),TF,H',⟨by have:=HK1.out;omega⟩,⟨TB⟩⟩
          · replace c8:=b_F c8
            subst c8
            replace H:=ifF H
            obtain rfl:=o_I H
            try go_wp2
            go_ret
            exact⟨TE,TB⟩
        · rw[if_neg c4] at H
          have c4b0:decide (x5_1<(l0.length:Int))=false:=decide_eq_false c4
          clear c4
          obtain rfl:=o_I H
          go_wp2
          go_ret
          exact⟨TE,TB⟩
  · rw[if_neg c3] at H
    have c3b0:((l0.length:Int)==(l1.length:Int))=false:=beq_eq_false_iff_ne.mpr c3
    have c3b1:((l0.length:Int) != (l1.length:Int))=true:=bne_iff_ne.mpr c3
    have c3b2:(l0.length==l1.length)=false:=by first|simpa using c3|(simp at c3 ⊢;omega)
    obtain rfl:=o_I H
    go_enter Tryz.func44,Tryz.ntmps44
    go_wp2
    go_ret
    exact⟨TE,TB⟩
def laws_eqManifest.f (k:Nat)(a0_0:Int)(a0_1:Int)(a0_2:Int)(l0_3:List (S96))(a1_0:Int)(a1_1:Int)(a1_2:Int)(l1_3:List (S96)):Option (Bool):=if a0_0=a1_0 then (if a0_1=a1_1 then (if a0_2=a1_2 then ((laws_eqSumS.f k l0_3 l1_3).bind fun t1013=>(if t1013=true then (some true) else (some false))) else (some false)) else (some false)) else (some false)
theorem laws_eqManifest.mono :∀a0 a1 a2 a3 a4 a5 a6 a7 k,LeO (laws_eqManifest.f k a0 a1 a2 a3 a4 a5 a6 a7) (laws_eqManifest.f (k+1) a0 a1 a2 a3 a4 a5 a6 a7):=by
  intro a0 a1 a2 a3 a4 a5 a6 a7 k;have m0_:=@laws_eqSumS.mono;unfold laws_eqManifest.f;exact LM
theorem laws_eqManifest.calls {k:Nat}{a0_0:Int}{a0_1:Int}{a0_2:Int}{A0_3:Option Addr}{c0_3:Nat}{l0_3:List (S96)}{a1_0:Int}{a1_1:Int}{a1_2:Int}{A1_3:Option Addr}{c1_3:Nat}{l1_3:List (S96)}{r:Bool}{w:World}(hr0_3:Kd.C k96 w A0_3 l0_3.length l0_3)(hc0_3:l0_3.length≤c0_3)(hr1_3:Kd.C k96 w A1_3 l1_3.length l1_3)(hc1_3:l1_3.length≤c1_3)(h:laws_eqManifest.f k a0_0 a0_1 a0_2 l0_3 a1_0 a1_1 a1_2 l1_3=some r):
    Calls Tryz.prog 14 #[.agg #[.int .i64 a0_0,.int .i64 a0_1,.int .i64 a0_2,.slice A0_3 l0_3.length c0_3],.agg #[.int .i64 a1_0,.int .i64 a1_1,.int .i64 a1_2,.slice A1_3 l1_3.length c1_3]] w fun e w'=>e=.returned (.bool r)∧Below w.heap.size w w':=by
  have hu45:=Tryz.underlying45
  have HR0_3:=aM hr0_3
  have HC0_3:=aM hc0_3
  clear hr0_3 hc0_3
  have HR1_3:=aM hr1_3
  have HC1_3:=aM hc1_3
  clear hr1_3 hc1_3
  have HB:=aM (Below.refl w.heap.size w)
  have H:=h
  clear h
  unfold laws_eqManifest.f at H
  by_cases c3:a0_0=a1_0
  · rw[if_pos c3] at H
    have c3b0:(a0_0==a1_0)=true:=beq_iff_eq.mpr c3
    have c3b1:(a0_0 != a1_0)=false:=bne_eq_false_iff_eq.mpr c3
    clear c3
    by_cases c4:a0_1=a1_1
    · rw[if_pos c4] at H
      have c4b0:(a0_1==a1_1)=true:=beq_iff_eq.mpr c4
      have c4b1:(a0_1 != a1_1)=false:=bne_eq_false_iff_eq.mpr c4
      clear c4
      by_cases c5:a0_2=a1_2
      · rw[if_pos c5] at H
        have c5b0:(a0_2==a1_2)=true:=beq_iff_eq.mpr c5
        have c5b1:(a0_2 != a1_2)=false:=bne_eq_false_iff_eq.mpr c5
        clear c5
        replace H:=bE H
        obtain⟨t1013,A6,H⟩:=H
        go_enter Tryz.func14,Tryz.ntmps14
        go_wp2_with (first|(refine g_D 2 ?_;refine gBx 2 #[.int .i64 a0_0,.int .i64 a0_1,.int .i64 a0_2,.slice A0_3 l0_3.length c0_3] 45 ?_;intro gb1011 hg w8 hbox hb;have BK1011:=aM (hbox);have GW1011:=gW HB hg;have GE1011:=gW HB hg;replace HB:=bS HB hb;clear hb hbox hg)|(refine g_D 3 ?_;refine gBx 3 #[.int .i64 a1_0,.int .i64 a1_1,.int .i64 a1_2,.slice A1_3 l1_3.length c1_3] 45 ?_;intro gb1012 hg w9 hbox hb;have BK1012:=aM (hbox);have GW1012:=gW HB hg;have GE1012:=gW HB hg;obtain⟨NB1011_1012,NB1012_1011⟩:=nB BK1011 hg;replace BK1011:=mB BK1011 hb;replace HB:=bS HB hb;clear hb hbox hg;obtain⟨hnb10,hnc10⟩:=oB NB1011_1012;obtain⟨hcz11_0,hcz11_1,hcz11_2,hcz11_3⟩:=cz4 BK1011.out;obtain⟨hfz11_0,hfz11_1,hfz11_2,hfz11_3⟩:=fz4 BK1011.out;obtain⟨hcz12_0,hcz12_1,hcz12_2,hcz12_3⟩:=cz4 BK1012.out;obtain⟨hfz12_0,hfz12_1,hfz12_2,hfz12_3⟩:=fz4 BK1012.out)|(refine g_C 44 ?_;refine gL (some 24) Tryz.func44 #[.slice A0_3 l0_3.length c0_3,.slice A1_3 l1_3.length c1_3] ?_;(with_reducible refine(laws_eqSumS.calls ?side1 ?side2 ?side3 ?side4 A6.out).mono ?_);(case side1=>have X_:=(Kd.C_below HR0_3.out HB.out);exact TC);(case side2=>exact HC0_3.out);(case side3=>have X_:=(Kd.C_below HR1_3.out HB.out);exact TC);(case side4=>exact HC1_3.out);rintro e w13 ⟨rfl,hb⟩;refine⟨_,rfl,?_⟩;replace BK1011:=mB BK1011 hb;replace BK1012:=mB BK1012 hb;replace HB:=bS HB hb;clear hb)|(refine g_D 25 ?_;generalize hG_:wpList _ _ _ _ _ _=G_))
        subst hG_
        by_cases c14:t1013=true
        · subst c14
          replace H:=ifT H
          obtain rfl:=o_I H
          go_wp2
          go_ret
          exact⟨TE,TB⟩
        · replace c14:=b_F c14
          subst c14
          replace H:=ifF H
          obtain rfl:=o_I H
          go_wp2
          go_ret
          exact⟨TE,TB⟩
      · rw[if_neg c5] at H
        have c5b0:(a0_2==a1_2)=false:=beq_eq_false_iff_ne.mpr c5
        have c5b1:(a0_2 != a1_2)=true:=bne_iff_ne.mpr c5
        obtain rfl:=o_I H
        go_enter Tryz.func14,Tryz.ntmps14
        go_wp2_with (first|(refine g_D 2 ?_;refine gBx 2 #[.int .i64 a0_0,.int .i64 a0_1,.int .i64 a0_2,.slice A0_3 l0_3.length c0_3] 45 ?_;intro gb1011 hg w15 hbox hb;have BK1011:=aM (hbox);have GW1011:=gW HB hg;have GE1011:=gW HB hg;replace HB:=bS HB hb;clear hb hbox hg)|(refine g_D 3 ?_;refine gBx 3 #[.int .i64 a1_0,.int .i64 a1_1,.int .i64 a1_2,.slice A1_3 l1_3.length c1_3] 45 ?_;intro gb1012 hg w16 hbox hb;have BK1012:=aM (hbox);have GW1012:=gW HB hg;have GE1012:=gW HB hg;obtain⟨NB1011_1012,NB1012_1011⟩:=nB BK1011 hg;replace BK1011:=mB BK1011 hb;replace HB:=bS HB hb;clear hb hbox hg;obtain⟨hnb17,hnc17⟩:=oB NB1011_1012;obtain⟨hcz18_0,hcz18_1,hcz18_2,hcz18_3⟩:=cz4 BK1011.out;obtain⟨hfz18_0,hfz18_1,hfz18_2,hfz18_3⟩:=fz4 BK1011.out;obtain⟨hcz19_0,hcz19_1,hcz19_2,hcz19_3⟩:=cz4 BK1012.out;obtain⟨hfz19_0,hfz19_1,hfz19_2,hfz19_3⟩:=fz4 BK1012.out))
        go_ret
        exact⟨TE,TB⟩
    · rw[if_neg c4] at H
      have c4b0:(a0_1==a1_1)=false:=beq_eq_false_iff_ne.mpr c4
      have c4b1:(a0_1 != a1_1)=true:=bne_iff_ne.mpr c4
      obtain rfl:=o_I H
      go_enter Tryz.func14,Tryz.ntmps14
      go_wp2_with (first|(refine g_D 2 ?_;refine gBx 2 #[.int .i64 a0_0,.int .i64 a0_1,.int .i64 a0_2,.slice A0_3 l0_3.length c0_3] 45 ?_;intro gb1011 hg w20 hbox hb;have BK1011:=aM (hbox);have GW1011:=gW HB hg;have GE1011:=gW HB hg;replace HB:=bS HB hb;clear hb hbox hg)|(refine g_D 3 ?_;refine gBx 3 #[.int .i64 a1_0,.int .i64 a1_1,.int .i64 a1_2,.slice A1_3 l1_3.length c1_3] 45 ?_;intro gb1012 hg w21 hbox hb;have BK1012:=aM (hbox);have GW1012:=gW HB hg;have GE1012:=gW HB hg;obtain⟨NB1011_1012,NB1012_1011⟩:=nB BK1011 hg;replace BK1011:=mB BK1011 hb;replace HB:=bS HB hb;clear hb hbox hg;obtain⟨hnb22,hnc22⟩:=oB NB1011_1012;obtain⟨hcz23_0,hcz23_1,hcz23_2,hcz23_3⟩:=cz4 BK1011.out;obtain⟨hfz23_0,hfz23_1,hfz23_2,hfz23_3⟩:=fz4 BK1011.out;obtain⟨hcz24_0,hcz24_1,hcz24_2,hcz24_3⟩:=cz4 BK1012.out;obtain⟨hfz24_0,hfz24_1,hfz24_2,hfz24_3⟩:=fz4 BK1012.out))
      go_ret
      exact⟨TE,TB⟩
  · rw[if_neg c3] at H
    have c3b0:(a0_0==a1_0)=false:=beq_eq_false_iff_ne.mpr c3
    have c3b1:(a0_0 != a1_0)=true:=bne_iff_ne.mpr c3
    obtain rfl:=o_I H
    go_enter Tryz.func14,Tryz.ntmps14
    go_wp2_with (first|(refine g_D 2 ?_;refine gBx 2 #[.int .i64 a0_0,.int .i64 a0_1,.int .i64 a0_2,.slice A0_3 l0_3.length c0_3] 45 ?_;intro gb1011 hg w25 hbox hb;have BK1011:=aM (hbox);have GW1011:=gW HB hg;have GE1011:=gW HB hg;replace HB:=bS HB hb;clear hb hbox hg)|(refine g_D 3 ?_;refine gBx 3 #[.int .i64 a1_0,.int .i64 a1_1,.int .i64 a1_2,.slice A1_3 l1_3.length c1_3] 45 ?_;intro gb1012 hg w26 hbox hb;have BK1012:=aM (hbox);have GW1012:=gW HB hg;have GE1012:=gW HB hg;obtain⟨NB1011_1012,NB1012_1011⟩:=nB BK1011 hg;replace BK1011:=mB BK1011 hb;replace HB:=bS HB hb;clear hb hbox hg;obtain⟨hnb27,hnc27⟩:=oB NB1011_1012;obtain⟨hcz28_0,hcz28_1,hcz28_2,hcz28_3⟩:=cz4 BK1011.out;obtain⟨hfz28_0,hfz28_1,hfz28_2,hfz28_3⟩:=fz4 BK1011.out;obtain⟨hcz29_0,hcz29_1,hcz29_2,hcz29_3⟩:=cz4 BK1012.out;obtain⟨hfz29_0,hfz29_1,hfz29_2,hfz29_3⟩:=fz4 BK1012.out))
    go_ret
    exact⟨TE,TB⟩
def laws_eqBuild.f (k:Nat)(a0_0:Int)(l0_1:List Int)(a1_0:Int)(l1_1:List Int):Option (Bool):=if a0_0=a1_0 then ((laws_eqByteS.f k l0_1 l1_1).bind fun t1016=>(if t1016=true then (some true) else (some false))) else (some false)
theorem laws_eqBuild.mono :∀a0 a1 a2 a3 k,LeO (laws_eqBuild.f k a0 a1 a2 a3) (laws_eqBuild.f (k+1) a0 a1 a2 a3):=by
  intro a0 a1 a2 a3 k;have m0_:=@laws_eqByteS.mono;unfold laws_eqBuild.f;exact LM
theorem laws_eqBuild.calls {k:Nat}{ac:Int}{ah:Option Addr}{ag:Nat}{aa:List Int}{ab:Int}{ae:Option Addr}{af:Nat}{ad:List Int}{r:Bool}{w:World}(ak:Kd.C (Kd.int .u8) w ah aa.length aa)(aj:aa.length≤ag)(al:Kd.C (Kd.int .u8) w ae ad.length ad)(ai:ad.length≤af)(h:laws_eqBuild.f k ac aa ab ad=some r):
  Calls Tryz.prog 15 #[.agg #[.int .i64 ac,.slice ah aa.length ag],.agg #[.int .i64 ab,.slice ae ad.length af]] w fun e w'=>e=.returned (.bool r)∧Below w.heap.size w w':=by
 have huq1:=Tryz.underlying47;have HRq1:=aM ak;have HCq1:=aM aj;clear ak aj;have HRq2:=aM al;have HCq2:=aM ai;clear al ai;have HB:=aM (Below.refl w.heap.size w);have H:=h;clear h;unfold laws_eqBuild.f at H
 by_cases c3:ac=ab
 ·rw[if_pos c3] at H;have c3b0:(ac==ab)=true:=beq_iff_eq.mpr c3;have c3b1:(ac != ab)=false:=bne_eq_false_iff_eq.mpr c3;clear c3;replace H:=bE H;obtain⟨am,Aq1,H⟩:=H;go_enter Tryz.func15,Tryz.ntmps15;go_wp2_with (first|(refine g_D 2 ?_;refine gBx 2 #[.int .i64 ac,.slice ah aa.length ag] 47 ?_;intro gbq1 hg w6 hbox hb;have BKq1:=aM (hbox);have GWq1:=gW HB hg;have GEq1:=gW HB hg;replace HB:=bS HB hb;clear hb hbox hg)|(refine g_D 3 ?_;refine gBx 3 #[.int .i64 ab,.slice ae ad.length af] 47 ?_;intro gbq2 hg wq1 hbox hb;have BKq2:=aM (hbox);have GWq2:=gW HB hg;have GEq2:=gW HB hg;obtain⟨NBq1,NBq2⟩:=nB BKq1 hg;replace BKq1:=mB BKq1 hb;replace HB:=bS HB hb;clear hb hbox hg;obtain⟨hnbq1,hncq1⟩:=oB NBq1;obtain⟨hcz9_0,hcz9_1⟩:=cz2 BKq1.out;obtain⟨hfz9_0,hfz9_1⟩:=fz2 BKq1.out;obtain⟨hczq1,hczq2⟩:=cz2 BKq2.out;obtain⟨hfzq1,hfzq2⟩:=fz2 BKq2.out)|(refine g_C 41 ?_;refine gL (some 14) Tryz.func41 #[.slice ah aa.length ag,.slice ae ad.length af] ?_;(with_reducible refine(laws_eqByteS.calls ?side1 ?side2 ?side3 ?side4 Aq1.out).mono ?_);(case side1=>have X_:=(Kd.C_below HRq1.out HB.out);exact TC);(case side2=>exact HCq1.out);(case side3=>have X_:=(Kd.C_below HRq2.out HB.out);exact TC);(case side4=>exact HCq2.out);rintro e w' ⟨rfl,⟨nd,rfl⟩⟩;refine⟨_,rfl,?_⟩)|(refine g_D 15 ?_;generalize hG_:wpList _ _ _ _ _ _=G_))
  subst hG_
  by_cases cq1:am=true
  ·subst cq1;replace H:=ifT H;obtain rfl:=o_I H;go_wp2
   go_ret
   exact⟨TE,TB⟩
  ·replace cq1:=b_F cq1;subst cq1;replace H:=ifF H;obtain rfl:=o_I H;go_wp2
   go_ret
   exact⟨TE,TB⟩
 ·rw[if_neg c3] at H;have c3b0:(ac==ab)=false:=beq_eq_false_iff_ne.mpr c3;have c3b1:(ac != ab)=true:=bne_iff_ne.mpr c3;obtain rfl:=o_I H;go_enter Tryz.func15,Tryz.ntmps15;go_wp2_with (first|(refine g_D 2 ?_;refine gBx 2 #[.int .i64 ac,.slice ah aa.length ag] 47 ?_;intro gbq1 hg w12 hbox hb;have BKq1:=aM (hbox);have GWq1:=gW HB hg;have GEq1:=gW HB hg;replace HB:=bS HB hb;clear hb hbox hg)|(refine g_D 3 ?_;refine gBx 3 #[.int .i64 ab,.slice ae ad.length af] 47 ?_;intro gbq2 hg w13 hbox hb;have BKq2:=aM (hbox);have GWq2:=gW HB hg;have GEq2:=gW HB hg;obtain⟨NBq1,NBq2⟩:=nB BKq1 hg;replace BKq1:=mB BKq1 hb;replace HB:=bS HB hb;clear hb hbox hg;obtain⟨hnbq1,hncq1⟩:=oB NBq1;obtain⟨hczq1,hczq2⟩:=cz2 BKq1.out;obtain⟨hfzq1,hfzq2⟩:=fz2 BKq1.out;obtain⟨hczq3,hczq4⟩:=cz2 BKq2.out;obtain⟨hfzq3,hfzq4⟩:=fz2 BKq2.out))
  go_ret
  exact⟨TE,TB⟩
theorem Zq43_0 {p:Prop}(h:p:=by repeat (first|(with_reducible first|exact HK.out|apply Kept.alloc|apply Kept.drewN|apply Kept.drew|refine Kept.setCell ?_ (.inr GW1020.out) _|refine Kept.setCell ?_ (.inr GWq1.out) _)|exact HK.out)):p:=h
def laws_markByteS.l0 :Nat→List Int→Int→Int→Option (Int×List Int)
  |0,_,_,_=>none
  |k+1,x0,x1,x5=>if x5<(x0.length:Int) then (if 0≤x5 then (laws_markByteS.l0 k (x0.set (x5:Int).toNat ((x1) % 256)) (wrap64 (x1+1)) (wrap64 (x5+1))) else (none)) else (some (x1,x0))
def laws_markByteS.f (k:Nat)(l0:List Int)(a1:Int):Option (Int×List Int):=laws_markByteS.l0 k l0 a1 0
theorem laws_markByteS.mono_l :∀k,(∀y0 y1 y2,LeO (laws_markByteS.l0 k y0 y1 y2) (laws_markByteS.l0 (k+1) y0 y1 y2))
  |0=>fun _ _ _ r h=>by simp [laws_markByteS.l0] at h
  | k+1=>by
    have ih0:=laws_markByteS.mono_l k
    · intro y0 y1 y2
      unfold laws_markByteS.l0
      exact LM
theorem laws_markByteS.mono :∀a0 a1 k,LeO (laws_markByteS.f k a0 a1) (laws_markByteS.f (k+1) a0 a1):=by
  intro a0 a1 k;have ih0:=laws_markByteS.mono_l k;unfold laws_markByteS.f;exact LM
theorem laws_markByteS.calls {k:Nat}(P0_:Nat→Prop)(u9000_:Value)(l0:List Int)(a1:Int)(r1:Int)(r2:List Int)(w0 w:World)(hB:Below w0.heap.size w0 w)(ho0:Kd.R (Kd.int .u8) 5 w w0.heap.size P0_ u9000_ l0)(h:laws_markByteS.f k l0 a1=some (r1,r2)):
    Calls Tryz.prog 45 #[u9000_,.int .i64 a1] w fun e w'=>e=.returned (.int .i64 r1)∧Kd.R (Kd.int .u8) 5 w' w0.heap.size (fun k_=>(P0_ k_∨w.heap.size≤k_)) u9000_ r2∧Below w0.heap.size w0 w'∧Kept w w' (fun k_=>P0_ k_):=by
  have HO0:=aM (show Kd.R (Kd.int .u8) 5 w w0.heap.size (fun k_=>(P0_ k_∨w.heap.size≤k_)) u9000_ l0 from Kd.R_mono ho0 (fun k_ hk=>(.inl hk)))
  have HK:=aM (Kept.refl w (fun k_=>P0_ k_))
  have HW0:=aM hB.size
  have HB:=aM hB
  clear hB
  have H:=h
  clear h
  unfold laws_markByteS.f at H
  have H':=aM H
  clear H
  go_enter Tryz.func45,Tryz.ntmps45
  go_wp2
  go_loopg [1,5] k (fun kq v1 v5 w'=>∃(x0_1:List Int) (x1_1:Int) (x5_1:Int),v1=.int .i64 x1_1∧v5=.int .i64 x5_1∧Aside0 (laws_markByteS.l0 kq x0_1 x1_1 x5_1=some (r1,r2))∧Aside0 (kq≤k)∧Aside0 (Kd.R (Kd.int .u8) 5 w' w0.heap.size (fun k_=>(P0_ k_∨w.heap.size≤k_)) u9000_ x0_1)∧Aside0 (Kept w w' (fun k_=>P0_ k_))∧Aside0 (Below w0.heap.size w0 w'))
  case atStart=>exact⟨(l0),(a1),(0),TF,TF,H',⟨Nat.le_refl _⟩,⟨by have X_:=HO0.out;exact TR⟩,⟨by repeat (first|(with_reducible first|exact HK.out|apply Kept.alloc|apply Kept.drewN|apply Kept.drew)|exact HK.out)⟩,⟨TB⟩⟩
  case round=>
    clear H'
    try clear p2
    obtain⟨x0_1,x1_1,x5_1,rfl,rfl,HA,HK1,HO_0,HK,HB⟩:=hrel
    cases gk with
    |zero=>exact absurd HA.out (by simp [laws_markByteS.l0])
    | succ k1=>
      have H:=HA.out
      clear HA
      simp only[laws_markByteS.l0] at H
      by_cases c3:x5_1<(x0_1.length:Int)
      · rw[if_pos c3] at H
        have c3b0:decide (x5_1<(x0_1.length:Int))=true:=decide_eq_true c3
        clear c3
        replace H:=ifN H
        obtain⟨c4,H⟩:=H
        have c4b0:decide (0≤x5_1)=true:=decide_eq_true c4
        clear c4
        obtain⟨y1017,hy1017⟩:∃y_:List Int,y_=(x0_1.set (x5_1:Int).toNat ((x1_1) % 256)):=⟨_,rfl⟩
        rw[← hy1017] at H
        have Ny1017:=aM hy1017
        clear hy1017
        have H':=aM H
        clear H
        obtain⟨Ao6,co6,eo6⟩:=Kd.R_slice HO_0.out
        subst eo6
        have p5:0≤(x5_1:Int):=DT
        have q5:(x5_1:Int)<((x0_1.length:Int):Int):=DT
        obtain⟨go5,co5,eo5,gb5,gl5,cl5,HG5⟩:=Kd.R_form HO_0.out (by omega)
        (first|cases eo5|(injection eo5 with ea_ en_ ec_;(first|subst ea_|(injection ea_ with ea_;subst ea_));subst ec_;clear en_))
        have GB5:=aM gb5
        have GG5:=aM HG5
        clear gb5 gl5 HG5
        have HMgo5:=aM (show(P0_ go5∨w.heap.size≤go5) from(HO_0.out.1 _ rfl))
        obtain⟨hx5_0,hf5_0⟩:=Kd.R_celln 0 HO_0.out (x5_1:Int) p5 q5
        replace p5:=eq_true p5
        replace q5:=eq_true q5
        have HP7:=Kd.R_putg HO_0.out (x5_1:Int) ((x1_1) % 256)
        go_wp2_with (first|((with_reducible refine gate_store (t:=5) (p:=16) rfl ?_);refine store_event (t:=5) (p:=16) (v:=?vo_w8) (w1:=(wr.setCell ⟨go5,(x5_1:Int).toNat,none⟩ (.int .u8 ((x1_1) % 256)))) ?hg ?ho ?hn ?hr ?_;(case ho=>rfl);(case hg=>rfl);(case hn=>rfl);(case hr=>first|(go_simp;done)|(go_simp;rfl));intro w8 hw;have hg:wr.grownBy w8 (some go5):=(by rw[hw];exact HP7.2);have hp_:Kd.R (Kd.int .u8) 5 w8 w0.heap.size (fun k_=>(P0_ k_∨w.heap.size≤k_)) (.slice (some ⟨go5,0,none⟩) x0_1.length co6) y1017:=(by rw[hw,Ny1017.out];exact HP7.1);clear HP7;replace HB:=aM ((by rw[hw];exact below_set (HB.out) GB5.out:Below w0.heap.size w0 w8));replace HK:=aM (Kept.of_grown (S:=(fun k_=>P0_ k_)) hg (by exact Zq43_0) (fun k_ e_=>(HO_0.out.1 k_ e_)));replace HO_0:=aM (hp_);clear hg hw hp_))
        go_roundg k1
        case measure=>have:=HK1.out;omega
        case rel=>exact⟨(y1017),(wrap64 (x1_1+1)),(wrap64 (x5_1+1)),TF,TF,H',⟨by have:=HK1.out;omega⟩,⟨by have X_:=HO_0.out;exact TR⟩,⟨by repeat (first|(with_reducible first|exact HK.out|apply Kept.alloc|apply Kept.drewN|apply Kept.drew)|exact HK.out)⟩,⟨TB⟩⟩
      · rw[if_neg c3] at H
        have c3b0:decide (x5_1<(x0_1.length:Int))=false:=decide_eq_false c3
        clear c3
        simp only[Option.some.injEq,Prod.mk.injEq] at H
        obtain⟨rfl,rfl⟩:=H
        obtain⟨Ao9,co9,eo9⟩:=Kd.R_slice HO_0.out
        subst eo9
        go_wp2
        go_ret
        exact⟨TE,by have X_:=HO_0.out;exact TR,TB,by repeat (first|(with_reducible first|exact HK.out|apply Kept.alloc|apply Kept.drewN|apply Kept.drew)|exact HK.out)⟩
def laws_markPutS.l0 :Nat→List S91→Int→Int→Option (Int×List S91)
  |0,_,_,_=>none
  |k+1,x0,x1,x5=>if x5<(x0.length:Int) then (if 0≤x5 then ((laws_markByteS.f k (rd_T91 x0 x5).f2 (wrap64 (wrap64 (x1+1)+1))).bind fun b=>(laws_markPutS.l0 k (x0.set x5.toNat (⟨x1,wrap64 (x1+1),b.2,⟨b.1,wrap64 (b.1+1),wrap64 (wrap64 (b.1+1)+1)⟩⟩:S91)) (wrap64 (wrap64 (wrap64 (b.1+1)+1)+1)) (wrap64 (x5+1)))) else none) else (some (x1,x0))
def laws_markPutS.f (k:Nat)(l0:List S91)(a1:Int):Option (Int×List S91):=laws_markPutS.l0 k l0 a1 0
theorem laws_markPutS.mono_l :∀k,(∀y0 y1 y2,LeO (laws_markPutS.l0 k y0 y1 y2) (laws_markPutS.l0 (k+1) y0 y1 y2))
  |0=>fun _ _ _ r h=>by simp [laws_markPutS.l0] at h
  | k+1=>by
    have m0_:=@laws_markByteS.mono
    have ih0:=laws_markPutS.mono_l k
    intro y0 y1 y2
    unfold laws_markPutS.l0
    exact LM
theorem laws_markPutS.mono :∀a0 a1 k,LeO (laws_markPutS.f k a0 a1) (laws_markPutS.f (k+1) a0 a1):=by
  intro a0 a1 k;have ih0:=laws_markPutS.mono_l k;exact ih0 _ _ _
theorem laws_markPutS.calls {k:Nat}(ok:Nat→Prop)(v:Value)(l0:List S91)(a1:Int)(r1:Int)(r2:List S91)(w0 w:World)(hB:Below w0.heap.size w0 w)(ho:Kd.S k91 91 w w0.heap.size ok v l0)(h:laws_markPutS.f k l0 a1=some (r1,r2)):
    Calls Tryz.prog 46 #[v,.int .i64 a1] w fun e w'=>e=.returned (.int .i64 r1)∧Kd.S k91 91 w' w0.heap.size ok v r2∧Below w0.heap.size w0 w'∧Kept w w' ok:=by
  have HO:=aM ho
  have HK:=aM (Kept.refl w ok)
  have HB:=aM hB
  have H':=aM (show laws_markPutS.l0 k l0 a1 0=some (r1,r2) from h)
  clear ho hB h
  go_enter Tryz.func46,Tryz.ntmps46
  go_wp2
  go_loopg [1,5] k (fun kq v1 v5 w'=>∃(x0:List S91) (x1:Int) (x5:Int),v1=.int .i64 x1∧v5=.int .i64 x5∧Aside0 (laws_markPutS.l0 kq x0 x1 x5=some (r1,r2))∧Aside0 (kq≤k)∧Aside0 (Kd.S k91 91 w' w0.heap.size ok v x0)∧Aside0 (Kept w w' ok)∧Aside0 (Below w0.heap.size w0 w'))
  case atStart=>exact⟨l0,a1,0,rfl,rfl,H',⟨Nat.le_refl _⟩,HO,HK,HB⟩
  case round=>
    clear H' HO HK HB
    obtain⟨x0,x1,x5,rfl,rfl,HA,HK1,HO,HK,HB⟩:=hrel
    cases gk with
    |zero=>exact absurd HA.out (by simp [laws_markPutS.l0])
    | succ k1=>
      have H:=HA.out
      clear HA
      simp only[laws_markPutS.l0] at H
      by_cases c3:x5<(x0.length:Int)
      · rw[if_pos c3] at H
        replace H:=ifN H
        obtain⟨c4,H⟩:=H
        replace H:=bE H
        obtain⟨⟨b1,b2⟩,A5,H⟩:=H
        dsimp only at A5 H
        have H':=aM H
        clear H
        obtain⟨g,cap,rfl,hgb,hgl,hgc⟩:=Kd.S_form HO.out (by omega)
        obtain⟨oki,c,hcl,hM,hcc,hcf,hoki,hH⟩:=Kd.S_elem HO.out z91 x5 c4 c3
        obtain⟨v2,rfl,hv2⟩:=k91_openM hM
        have c3b:decide (x5<(x0.length:Int))=true:=decide_eq_true c3
        have HV2:=aM hv2
        have HH:=aM hH
        have HOK:=aM hoki
        have HG:=aM hgb
        have C3:=aM (And.intro c4 c3)
        have HOG:=aM ((Kd.S_R HO.out).1 g rfl)
        clear hgc hgl hcl hM hcc hcf hv2 hoki hH HO
        go_wp2_with (first|((with_reducible refine gate_store (t:=3) (p:=16) rfl ?_);refine gStH (d:=k91) 0 [.int .i64 x1] [.int .i64 x1,.int .i64 (x0.getD x5.toNat z91).f1,v2,.int .i64 (x0.getD x5.toNat z91).f3.f0,.int .i64 (x0.getD x5.toNat z91).f3.f1,.int .i64 (x0.getD x5.toNat z91).f3.f2] HH.out C3.out.1 C3.out.2 ?_;intro w1 hw hh;replace HH:=aM hh;replace HV2:=aM (Kd.R_move HV2.out (fun k q=>hw.2.2 k (HOK.out k q).2));replace HB:=aM (hw.below HB.out HG.out);replace HK:=aM (HK.out.then_ hw.kept (fun k e=>.inl (e ▸ HOG.out)));clear hw hh)|((with_reducible refine gate_store (t:=3) (p:=23) rfl ?_);refine gStH (d:=k91) 1 [.int .i64 (wrap64 (x1+1))] [.int .i64 x1,.int .i64 (wrap64 (x1+1)),v2,.int .i64 (x0.getD x5.toNat z91).f3.f0,.int .i64 (x0.getD x5.toNat z91).f3.f1,.int .i64 (x0.getD x5.toNat z91).f3.f2] HH.out C3.out.1 C3.out.2 ?_;intro w1 hw hh;replace HH:=aM hh;replace HV2:=aM (Kd.R_move HV2.out (fun k q=>hw.2.2 k (HOK.out k q).2));replace HB:=aM (hw.below HB.out HG.out);replace HK:=aM (HK.out.then_ hw.kept (fun k e=>.inl (e ▸ HOG.out)));clear hw hh)|(refine g_D 30 ?_;have hc:World.cell? _ ⟨g,x5.toNat * 6+2,none⟩=some v2:=H_cell HH.out C3.out.1 C3.out.2 2 rfl;refine gCl 30 v2 ?_;clear hc)|(refine g_C 45 ?_;refine gL (some 32) Tryz.func45 #[v2,.int .i64 (wrap64 (wrap64 (x1+1)+1))] ?_;refine(laws_markByteS.calls oki v2 (x0.getD x5.toNat z91).f2 _ b1 b2 w0 _ HB.out HV2.out A5.out).mono ?_;rintro e w4 ⟨rfl,hv,hb,hk⟩;refine⟨_,rfl,?_⟩;replace HH:=aM (Kd.H_kept HH.out hk (fun k _ q=>q));replace HK:=aM (HK.out.then_ hk (fun k e=>.inl (HOK.out k e).1));replace HV2:=aM (Kd.R_reok (ok:=oki) rfl hv (fun k e=>HV2.out.1 k e));replace HB:=aM hb;clear hv hb hk)|((with_reducible refine gate_store (t:=3) (p:=38) rfl ?_);refine gStH (d:=k91) 3 [.int .i64 b1] [.int .i64 x1,.int .i64 (wrap64 (x1+1)),v2,.int .i64 b1,.int .i64 (x0.getD x5.toNat z91).f3.f1,.int .i64 (x0.getD x5.toNat z91).f3.f2] HH.out C3.out.1 C3.out.2 ?_;intro w1 hw hh;replace HH:=aM hh;replace HV2:=aM (Kd.R_move HV2.out (fun k q=>hw.2.2 k (HOK.out k q).2));replace HB:=aM (hw.below HB.out HG.out);replace HK:=aM (HK.out.then_ hw.kept (fun k e=>.inl (e ▸ HOG.out)));clear hw hh)|((with_reducible refine gate_store (t:=3) (p:=46) rfl ?_);refine gStH (d:=k91) 4 [.int .i64 (wrap64 (b1+1))] [.int .i64 x1,.int .i64 (wrap64 (x1+1)),v2,.int .i64 b1,.int .i64 (wrap64 (b1+1)),.int .i64 (x0.getD x5.toNat z91).f3.f2] HH.out C3.out.1 C3.out.2 ?_;intro w1 hw hh;replace HH:=aM hh;replace HV2:=aM (Kd.R_move HV2.out (fun k q=>hw.2.2 k (HOK.out k q).2));replace HB:=aM (hw.below HB.out HG.out);replace HK:=aM (HK.out.then_ hw.kept (fun k e=>.inl (e ▸ HOG.out)));clear hw hh)|((with_reducible refine gate_store (t:=3) (p:=54) rfl ?_);refine gStH (d:=k91) 5 [.int .i64 (wrap64 (wrap64 (b1+1)+1))] [.int .i64 x1,.int .i64 (wrap64 (x1+1)),v2,.int .i64 b1,.int .i64 (wrap64 (b1+1)),.int .i64 (wrap64 (wrap64 (b1+1)+1))] HH.out C3.out.1 C3.out.2 ?_;intro w1 hw hh;replace HH:=aM hh;replace HV2:=aM (Kd.R_move HV2.out (fun k q=>hw.2.2 k (HOK.out k q).2));replace HB:=aM (hw.below HB.out HG.out);replace HK:=aM (HK.out.then_ hw.kept (fun k e=>.inl (e ▸ HOG.out)));clear hw hh))
        have hs:=Kd.H_back HH.out (k91_mkM _ _ _ (⟨x1,wrap64 (x1+1),b2,⟨b1,wrap64 (b1+1),wrap64 (wrap64 (b1+1)+1)⟩⟩:S91) HV2.out) (fun _ q=>q)
        go_roundg k1
        case measure=>have:=HK1.out;omega
        case rel=>exact⟨_,_,_,rfl,rfl,H',⟨by have:=HK1.out;omega⟩,⟨hs⟩,HK,HB⟩
      · rw[if_neg c3] at H
        have c3b:decide (x5<(x0.length:Int))=false:=decide_eq_false c3
        clear c3
        simp only[Option.some.injEq,Prod.mk.injEq] at H
        obtain⟨rfl,rfl⟩:=H
        obtain⟨A,c,rfl⟩:=Kd.S_slice HO.out
        go_wp2
        go_ret
        exact⟨rfl,HO.out,HB.out,HK.out⟩
def laws_markDisk.f (k:Nat)(l0_0:List Int)(l0_1:List Int)(a0_2 a0_3 a0_4:Int)(l0_5:List S91)(a1:Int):Option (Int×List Int×List Int×List S91):=(laws_markByteS.f k l0_0 a1).bind fun b=>((laws_markByteS.f k l0_1 b.1).bind fun c=>((laws_markPutS.f k l0_5 c.1).bind fun d=>(some (d.1,b.2,c.2,d.2))))
theorem laws_markDisk.mono :∀a0 a1 a2 a3 a4 a5 a6 k,LeO (laws_markDisk.f k a0 a1 a2 a3 a4 a5 a6) (laws_markDisk.f (k+1) a0 a1 a2 a3 a4 a5 a6):=by
  intro a0 a1 a2 a3 a4 a5 a6 k;have m0_:=@laws_markByteS.mono;have m1_:=@laws_markPutS.mono;unfold laws_markDisk.f;exact LM
theorem laws_markDisk.calls {k:Nat}(I:Nat→Prop)(A0:Option Addr)(c0:Nat)(l0:List Int)(A1:Option Addr)(c1:Nat)(l1:List Int)(a2 a3 a4:Int)(A5:Option Addr)(c5:Nat)(l5:List S91)(a1:Int)(r1:Int)(r2 r3:List Int)(r4:List S91)(w0 w:World)
    (hB:Below w0.heap.size w0 w) (hD:DskI w w0.heap.size I (.slice A0 l0.length c0) (.slice A1 l1.length c1) (.slice A5 l5.length c5) l0 l1 l5) (h:laws_markDisk.f k l0 l1 a2 a3 a4 l5 a1=some (r1,r2,r3,r4)):
    Calls Tryz.prog 16 #[.agg #[.slice A0 l0.length c0,.slice A1 l1.length c1,.int .i64 a2,.int .i64 a3,.int .i64 a4,.slice A5 l5.length c5],.int .i64 a1] w fun e w'=>e=.returned (.int .i64 r1)∧DskI w' w0.heap.size I (.slice A0 l0.length c0) (.slice A1 l1.length c1) (.slice A5 l5.length c5) r2 r3 r4∧Below w0.heap.size w0 w'∧Kept w w' I:=by
  have hu39:=Tryz.underlying39
  have HB:=aM hB
  have HK:=aM (Kept.refl w I)
  have HA:=aM hD.1
  have HE:=aM hD.2.1
  have HP:=aM hD.2.2
  clear hB hD
  unfold laws_markDisk.f at h
  obtain⟨⟨b1,b2⟩,A1',h⟩:=bE h
  obtain⟨⟨d1,d2⟩,A2',h⟩:=bE h
  obtain⟨⟨e1,e2⟩,A3',h⟩:=bE h
  dsimp only at A1' A2' A3' h
  obtain⟨rfl,rfl,rfl,rfl⟩:e1=r1∧b2=r2∧d2=r3∧e2=r4:=by simpa using h
  clear h
  go_enter Tryz.func16,Tryz.ntmps16
  go_wp2_with (first|(refine g_D 2 ?_;refine gBx 2 #[.slice A0 l0.length c0,.slice A1 l1.length c1,.int .i64 a2,.int .i64 a3,.int .i64 a4,.slice A5 l5.length c5] 39 ?_;intro g2 hg w2 hbox hb;have B2:=aM hbox;replace HA:=aM (Kd.R_below HA.out hb);replace HE:=aM (Kd.R_below HE.out hb);replace HP:=aM (Kd.S_below HP.out hb);replace HK:=aM (HK.out.below hb);replace HB:=aM (below_step HB.out hb);clear hb hbox hg;obtain⟨hcz0,hcz1,hcz2,hcz3,hcz4,hcz5⟩:=cz6 B2.out)|(refine g_C 45 ?_;refine g_D 8 ?_;refine gL (some 8) Tryz.func45 #[.slice A0 l0.length c0,.int .i64 a1] ?_;refine(laws_markByteS.calls (fun j=>some j=(Value.slice A0 l0.length c0).ownBlock) _ l0 a1 b1 b2 w0 _ HB.out (Kd.R_reok rfl HA.out (fun _ e=>e.symm)) A1'.out).mono ?_;rintro e w3 ⟨rfl,hv,hb,hk⟩;refine⟨_,rfl,?_⟩;replace HE:=aM (Kd.R_kept HE.out hk (fun k q e=>q.2 e));replace HP:=aM (Kd.S_kept HP.out hk (fun k q e=>q.2.1 e));replace B2:=aM (blk_kept B2.out hk (Kd.R_ne HA.out B2.out (by decide)));replace HK:=aM (HK.out.then_ hk (fun k e=>.inl (HA.out.1 k e.symm).1));replace HA:=aM (Kd.R_reok (ok:=fun k=>I k∧some k≠(Value.slice A1 l1.length c1).ownBlock) rfl hv (fun k e=>HA.out.1 k e));replace HB:=aM hb;clear hv hb hk hcz0 hcz1 hcz2 hcz3 hcz4 hcz5;obtain⟨hcz0,hcz1,hcz2,hcz3,hcz4,hcz5⟩:=cz6 B2.out)|(refine g_C 45 ?_;refine g_D 12 ?_;refine gL (some 12) Tryz.func45 #[.slice A1 l1.length c1,.int .i64 b1] ?_;refine(laws_markByteS.calls (fun j=>some j=(Value.slice A1 l1.length c1).ownBlock) _ l1 b1 d1 d2 w0 _ HB.out (Kd.R_reok rfl HE.out (fun _ e=>e.symm)) A2'.out).mono ?_;rintro e w3 ⟨rfl,hv,hb,hk⟩;refine⟨_,rfl,?_⟩;replace HA:=aM (Kd.R_kept HA.out hk (fun k q e=>q.2 e));replace HP:=aM (Kd.S_kept HP.out hk (fun k q e=>q.2.2 e));replace B2:=aM (blk_kept B2.out hk (Kd.R_ne HE.out B2.out (by decide)));replace HK:=aM (HK.out.then_ hk (fun k e=>.inl (HE.out.1 k e.symm).1));replace HE:=aM (Kd.R_reok (ok:=fun k=>I k∧some k≠(Value.slice A0 l0.length c0).ownBlock) rfl hv (fun k e=>HE.out.1 k e));replace HB:=aM hb;clear hv hb hk hcz0 hcz1 hcz2 hcz3 hcz4 hcz5;obtain⟨hcz0,hcz1,hcz2,hcz3,hcz4,hcz5⟩:=cz6 B2.out)|(refine g_C 46 ?_;refine gL (some 16) Tryz.func46 #[.slice A5 l5.length c5,.int .i64 d1] ?_;refine(laws_markPutS.calls _ _ l5 d1 e1 e2 w0 _ HB.out HP.out A3'.out).mono ?_;rintro e w3 ⟨rfl,hv,hb,hk⟩;refine⟨_,rfl,?_⟩;replace HA:=aM (R_kept1 rfl HA.out hk (fun k e q=>q.2.1 e.symm));replace HE:=aM (R_kept1 rfl HE.out hk (fun k e q=>q.2.2 e.symm));replace HK:=aM (HK.out.then_ hk (fun k e=>.inl e.1));replace HP:=aM hv;replace HB:=aM hb;clear hv hb hk hcz0 hcz1 hcz2 hcz3 hcz4 hcz5 B2))
  go_ret
  exact⟨rfl,⟨HA.out,HE.out,HP.out⟩,HB.out,HK.out⟩
def laws_markSumS.l0 :Nat→List (S96)→Int→Int→Option (Int×(List (S96)))
  |0,_,_,_=>none
  |k+1,x0,x1,x5=>if x5<(x0.length:Int) then (if 0≤x5 then ((some (x0.set (x5:Int).toNat (⟨x1,(rd_T96 x0 x5).f1⟩:S96):List (S96))).bind fun y1018=>(laws_markSumS.l0 k (y1018.set (x5:Int).toNat (⟨(rd_T96 y1018 x5).f0,wrap64 (x1+1)⟩:S96)) (wrap64 ((wrap64 (x1+1))+1)) (wrap64 (x5+1)))) else (none)) else (some (x1,x0))
def laws_markSumS.f (k:Nat)(l0:List (S96))(a1:Int):Option (Int×(List (S96))):=laws_markSumS.l0 k l0 a1 0
theorem laws_markSumS.mono_l :∀k,(∀y0 y1 y2,LeO (laws_markSumS.l0 k y0 y1 y2) (laws_markSumS.l0 (k+1) y0 y1 y2))
  |0=>fun _ _ _ r h=>by simp [laws_markSumS.l0] at h
  | k+1=>by
    have ih0:=laws_markSumS.mono_l k
    · intro y0 y1 y2
      unfold laws_markSumS.l0
      exact LM
theorem laws_markSumS.mono :∀a0 a1 k,LeO (laws_markSumS.f k a0 a1) (laws_markSumS.f (k+1) a0 a1):=by
  intro a0 a1 k;have ih0:=laws_markSumS.mono_l k;unfold laws_markSumS.f;exact LM
theorem laws_markSumS.calls {k:Nat}(P0_:Nat→Prop)(u9000_:Value)(l0:List (S96))(a1:Int)(r1:Int)(r2:List (S96))(w0 w:World)(hB:Below w0.heap.size w0 w)(ho0:Kd.R k96 96 w w0.heap.size P0_ u9000_ l0)(h:laws_markSumS.f k l0 a1=some (r1,r2)):
    Calls Tryz.prog 47 #[u9000_,.int .i64 a1] w fun e w'=>e=.returned (.int .i64 r1)∧Kd.R k96 96 w' w0.heap.size (fun k_=>(P0_ k_∨w.heap.size≤k_)) u9000_ r2∧Below w0.heap.size w0 w'∧Kept w w' (fun k_=>P0_ k_):=by
  have HO0:=aM (show Kd.R k96 96 w w0.heap.size (fun k_=>(P0_ k_∨w.heap.size≤k_)) u9000_ l0 from Kd.R_mono ho0 (fun k_ hk=>(.inl hk)))
  have HK:=aM (Kept.refl w (fun k_=>P0_ k_))
  have HW0:=aM hB.size
  have HB:=aM hB
  clear hB
  have H:=h
  clear h
  unfold laws_markSumS.f at H
  have H':=aM H
  clear H
  go_enter Tryz.func47,Tryz.ntmps47
  go_wp2
  go_loopg [1,5] k (fun kq v1 v5 w'=>∃(x0_1:List (S96)) (x1_1:Int) (x5_1:Int),v1=.int .i64 x1_1∧v5=.int .i64 x5_1∧Aside0 (laws_markSumS.l0 kq x0_1 x1_1 x5_1=some (r1,r2))∧Aside0 (kq≤k)∧Aside0 (Kd.R k96 96 w' w0.heap.size (fun k_=>(P0_ k_∨w.heap.size≤k_)) u9000_ x0_1)∧Aside0 (Kept w w' (fun k_=>P0_ k_))∧Aside0 (Below w0.heap.size w0 w'))
  case atStart=>exact⟨(l0),(a1),(0),TF,TF,H',⟨Nat.le_refl _⟩,⟨by have X_:=HO0.out;exact TR⟩,⟨by repeat (first|(with_reducible first|exact HK.out|apply Kept.alloc|apply Kept.drewN|apply Kept.drew)|exact HK.out)⟩,⟨TB⟩⟩
  case round=>
    clear H'
    try clear p2
    obtain⟨x0_1,x1_1,x5_1,rfl,rfl,HA,HK1,HO_0,HK,HB⟩:=hrel
    cases gk with
    |zero=>exact absurd HA.out (by simp [laws_markSumS.l0])
    | succ k1=>
      have H:=HA.out
      clear HA
      simp only[laws_markSumS.l0] at H
      by_cases c3:x5_1<(x0_1.length:Int)
      · rw[if_pos c3] at H
        have c3b0:decide (x5_1<(x0_1.length:Int))=true:=decide_eq_true c3
        clear c3
        replace H:=ifN H
        obtain⟨c4,H⟩:=H
        have c4b0:decide (0≤x5_1)=true:=decide_eq_true c4
        clear c4
        obtain⟨y1018,hy1018⟩:∃y_:List (S96),y_=(x0_1.set (x5_1:Int).toNat (⟨x1_1,(rd_T96 x0_1 x5_1).f1⟩:S96)):=⟨_,rfl⟩
        replace H:=someE H hy1018
        have Ny1018:=aM hy1018
        clear hy1018
        obtain⟨y1019,hy1019⟩:∃y_:List (S96),y_=(y1018.set (x5_1:Int).toNat (⟨(rd_T96 y1018 x5_1).f0,wrap64 (x1_1+1)⟩:S96)):=⟨_,rfl⟩
        rw[← hy1019] at H
        have Ny1019:=aM hy1019
        clear hy1019
        have H':=aM H
        clear H
        obtain⟨Ao7,co7,eo7⟩:=Kd.R_slice HO_0.out
        subst eo7
        have p5:0≤(x5_1:Int):=DT
        have q5:(x5_1:Int)<((x0_1.length:Int):Int):=DT
        obtain⟨go5,co5,eo5,gb5,gl5,cl5,HG5⟩:=Kd.R_form HO_0.out (by omega)
        (first|cases eo5|(injection eo5 with ea_ en_ ec_;(first|subst ea_|(injection ea_ with ea_;subst ea_));subst ec_;clear en_))
        have GB5:=aM gb5
        have GG5:=aM HG5
        clear gb5 gl5 HG5
        have HMgo5:=aM (show(P0_ go5∨w.heap.size≤go5) from(HO_0.out.1 _ rfl))
        obtain⟨ce5,hcl5,hM5,hcc5,hfr5⟩:=Kd.R_elem HO_0.out z96 (x5_1:Int) p5 q5
        obtain rfl:=k96_openM hM5
        have hx5_0:wr.cell? ⟨go5,(x5_1:Int).toNat * 2,none⟩=some (.int .i64 ((rd_T96 x0_1 x5_1).f0)):=hcc5 0 _ rfl
        have hx5_1:wr.cell? ⟨go5,(x5_1:Int).toNat * 2+1,none⟩=some (.int .i64 ((rd_T96 x0_1 x5_1).f1)):=hcc5 1 _ rfl
        have hf5_0:wr.frozen? ⟨go5,(x5_1:Int).toNat * 2,none⟩=false:=hfr5 0
        have hf5_1:wr.frozen? ⟨go5,(x5_1:Int).toNat * 2+1,none⟩=false:=hfr5 1
        clear hcl5 hcc5 hfr5 hM5
        replace p5:=eq_true p5
        replace q5:=eq_true q5
        have HX8:=aM (show Kd.R k96 96 wr w0.heap.size (fun k_=>(P0_ k_∨w.heap.size≤k_)) (.slice (some ⟨go5,0,none⟩) x0_1.length co7) x0_1 from(TRf HO_0))
        obtain⟨ce8,hcl8,hM8,hcc8,hfr8⟩:=Kd.R_elem HX8.out z96 (x5_1:Int) DT (by have h_:(x5_1:Int)<((x0_1.length:Int):Int):=DT;first|exact h_|(have e_:=(Kd.R_reads' HO_0.out).1;omega)|simpa using h_)
        obtain rfl:=k96_openM hM8
        have HP8:=Kd.R_seg HX8.out (x5_1:Int) DT (by have h_:(x5_1:Int)<((x0_1.length:Int):Int):=DT;first|exact h_|(have e_:=(Kd.R_reads' HO_0.out).1;omega)|simpa using h_) (seg:=[.int .i64 x1_1]) (j:=0) hcl8 hcc8 (show 1≤2 from by decide) (x':=(⟨x1_1,(rd_T96 x0_1 x5_1).f1⟩:S96)) (k96_mkM _ _ _ (⟨x1_1,(rd_T96 x0_1 x5_1).f1⟩:S96)) (fun _ hk=>hk)
        have hx8_0:=hcc8 0 _ rfl
        (try simp only[show(k96).sz=2 from rfl,Nat.mul_one,Nat.add_zero] at hx8_0)
        have hf8_0:=hfr8 0
        (try simp only[show(k96).sz=2 from rfl,Nat.mul_one,Nat.add_zero] at hf8_0)
        clear hcl8 hcc8 hfr8 hM8
        go_wp2_with (first|((with_reducible refine gate_store (t:=3) (p:=16) rfl ?_);refine store_event (t:=3) (p:=16) (v:=?vo_w9) (w1:=(wr.setCell ⟨go5,(x5_1:Int).toNat * 2,none⟩ (.int .i64 x1_1))) ?hg ?ho ?hn ?hr ?_;(case ho=>rfl);(case hg=>rfl);(case hn=>rfl);(case hr=>first|(go_simp;done)|(go_simp;rfl));intro w9 hw;have hg:wr.grownBy w9 (some go5):=(by rw[hw];exact HP8.2);have hp_:Kd.R k96 96 w9 w0.heap.size (fun k_=>(P0_ k_∨w.heap.size≤k_)) (.slice (some ⟨go5,0,none⟩) x0_1.length co7) y1018:=(by rw[hw,Ny1018.out];exact HP8.1);clear HP8;replace HB:=aM ((by rw[hw];exact below_set (HB.out) GB5.out:Below w0.heap.size w0 w9));replace HK:=aM (Kept.of_grown (S:=(fun k_=>P0_ k_)) hg (by exact Zq43_0) (fun k_ e_=>(HO_0.out.1 k_ e_)));replace HO_0:=aM (hp_);clear hg hw hp_;have p6:0≤(x5_1:Int):=DT;have q6:(x5_1:Int)<((x0_1.length:Int):Int):=DT;obtain⟨ce6,hcl6,hM6,hcc6,hfr6⟩:=Kd.R_elem HO_0.out z96 (x5_1:Int) p6 q6;obtain rfl:=k96_openM hM6;have hx6_0:w9.cell? ⟨go5,(x5_1:Int).toNat * 2,none⟩=some (.int .i64 ((rd_T96 y1018 x5_1).f0)):=hcc6 0 _ rfl;have hx6_1:w9.cell? ⟨go5,(x5_1:Int).toNat * 2+1,none⟩=some (.int .i64 ((rd_T96 y1018 x5_1).f1)):=hcc6 1 _ rfl;have hf6_0:w9.frozen? ⟨go5,(x5_1:Int).toNat * 2,none⟩=false:=hfr6 0;have hf6_1:w9.frozen? ⟨go5,(x5_1:Int).toNat * 2+1,none⟩=false:=hfr6 1;clear hcl6 hcc6 hfr6 hM6;replace p6:=eq_true p6;replace q6:=eq_true q6;have HX10:=aM (show Kd.R k96 96 w9 w0.heap.size (fun k_=>(P0_ k_∨w.heap.size≤k_)) (.slice (some ⟨go5,0,none⟩) x0_1.length co7) y1018 from(TRf HO_0));obtain⟨ce10,hcl10,hM10,hcc10,hfr10⟩:=Kd.R_elem HX10.out z96 (x5_1:Int) DT (by have h_:(x5_1:Int)<((x0_1.length:Int):Int):=DT;first|exact h_|(have e_:=(Kd.R_reads' HO_0.out).1;omega)|simpa using h_);obtain rfl:=k96_openM hM10;have HP10:=Kd.R_seg HX10.out (x5_1:Int) DT (by have h_:(x5_1:Int)<((x0_1.length:Int):Int):=DT;first|exact h_|(have e_:=(Kd.R_reads' HO_0.out).1;omega)|simpa using h_) (seg:=[.int .i64 (wrap64 (x1_1+1))]) (j:=1) hcl10 hcc10 (show 2≤2 from by decide) (x':=(⟨(rd_T96 y1018 x5_1).f0,wrap64 (x1_1+1)⟩:S96)) (k96_mkM _ _ _ (⟨(rd_T96 y1018 x5_1).f0,wrap64 (x1_1+1)⟩:S96)) (fun _ hk=>hk);have hx10_1:=hcc10 1 _ rfl;(try simp only[show(k96).sz=2 from rfl,Nat.mul_one,Nat.add_zero] at hx10_1);have hf10_1:=hfr10 1;(try simp only[show(k96).sz=2 from rfl,Nat.mul_one,Nat.add_zero] at hf10_1);clear hcl10 hcc10 hfr10 hM10)|((with_reducible refine gate_store (t:=3) (p:=23) rfl ?_);refine store_event (t:=3) (p:=23) (v:=?vo_w11) (w1:=(w9.setCell ⟨go5,(x5_1:Int).toNat * 2+1,none⟩ (.int .i64 (wrap64 (x1_1+1))))) ?hg ?ho ?hn ?hr ?_;(case ho=>rfl);(case hg=>rfl);(case hn=>rfl);(case hr=>first|(go_simp;done)|(go_simp;rfl));intro w11 hw;have hg:w9.grownBy w11 (some go5):=(by rw[hw];exact HP10.2);have hp_:Kd.R k96 96 w11 w0.heap.size (fun k_=>(P0_ k_∨w.heap.size≤k_)) (.slice (some ⟨go5,0,none⟩) x0_1.length co7) y1019:=(by rw[hw,Ny1019.out];exact HP10.1);clear HP10;replace HB:=aM ((by rw[hw];exact below_set (HB.out) GB5.out:Below w0.heap.size w0 w11));replace HK:=aM (Kept.of_grown (S:=(fun k_=>P0_ k_)) hg (by exact Zq43_0) (fun k_ e_=>(HO_0.out.1 k_ e_)));replace HO_0:=aM (hp_);clear hg hw hp_))
        go_roundg k1
        case measure=>have:=HK1.out;omega
        case rel=>exact⟨(y1019),(wrap64 ((wrap64 (x1_1+1))+1)),(wrap64 (x5_1+1)),TF,TF,H',⟨by have:=HK1.out;omega⟩,⟨by have X_:=HO_0.out;exact TR⟩,⟨by repeat (first|(with_reducible first|exact HK.out|apply Kept.alloc|apply Kept.drewN|apply Kept.drew)|exact HK.out)⟩,⟨TB⟩⟩
      · rw[if_neg c3] at H
        have c3b0:decide (x5_1<(x0_1.length:Int))=false:=decide_eq_false c3
        clear c3
        simp only[Option.some.injEq,Prod.mk.injEq] at H
        obtain⟨rfl,rfl⟩:=H
        obtain⟨Ao12,co12,eo12⟩:=Kd.R_slice HO_0.out
        subst eo12
        go_wp2
        go_ret
        exact⟨TE,by have X_:=HO_0.out;exact TR,TB,by repeat (first|(with_reducible first|exact HK.out|apply Kept.alloc|apply Kept.drewN|apply Kept.drew)|exact HK.out)⟩
def laws_markManifest.f (k:Nat)(a0_0:Int)(a0_1:Int)(a0_2:Int)(l0_3:List (S96))(a1:Int):Option (Int×(List (S96))):=(laws_markSumS.f k l0_3 a1).bind fun bt1021=>(some (bt1021.1,bt1021.2))
theorem laws_markManifest.mono :∀a0 a1 a2 a3 a4 k,LeO (laws_markManifest.f k a0 a1 a2 a3 a4) (laws_markManifest.f (k+1) a0 a1 a2 a3 a4):=by
  intro a0 a1 a2 a3 a4 k;have m0_:=@laws_markSumS.mono;unfold laws_markManifest.f;exact LM
theorem laws_markManifest.calls {k:Nat}{a0_0:Int}{a0_1:Int}{a0_2:Int}(P0_3_:Nat→Prop)(u9000_:Value)(l0_3:List (S96))(a1:Int)(r1:Int)(r2:List (S96))(w0 w:World)(hB:Below w0.heap.size w0 w)(ho0_3:Kd.R k96 96 w w0.heap.size P0_3_ u9000_ l0_3)(h:laws_markManifest.f k a0_0 a0_1 a0_2 l0_3 a1=some (r1,r2)):
    Calls Tryz.prog 17 #[.agg #[.int .i64 a0_0,.int .i64 a0_1,.int .i64 a0_2,u9000_],.int .i64 a1] w fun e w'=>e=.returned (.int .i64 r1)∧Kd.R k96 96 w' w0.heap.size (fun k_=>(P0_3_ k_∨w.heap.size≤k_)) u9000_ r2∧Below w0.heap.size w0 w'∧Kept w w' (fun k_=>P0_3_ k_):=by
  have hu45:=Tryz.underlying45
  have HO0_3:=aM (show Kd.R k96 96 w w0.heap.size (fun k_=>(P0_3_ k_∨w.heap.size≤k_)) u9000_ l0_3 from Kd.R_mono ho0_3 (fun k_ hk=>(.inl hk)))
  have HK:=aM (Kept.refl w (fun k_=>P0_3_ k_))
  have HW0:=aM hB.size
  have HB:=aM hB
  clear hB
  have H:=h
  clear h
  unfold laws_markManifest.f at H
  replace H:=bE H
  obtain⟨⟨t1021,t1022⟩,A3,H⟩:=H
  dsimp only at H
  simp only[Option.some.injEq,Prod.mk.injEq] at H
  obtain⟨rfl,rfl⟩:=H
  obtain⟨Ao4,co4,eo4⟩:=Kd.R_slice HO0_3.out
  subst eo4
  go_enter Tryz.func17,Tryz.ntmps17
  go_wp2_with (first|(refine g_D 2 ?_;refine gBx 2 #[.int .i64 a0_0,.int .i64 a0_1,.int .i64 a0_2,.slice Ao4 l0_3.length co4] 45 ?_;intro gb1020 hg w5 hbox hb;have BK1020:=aM (hbox);have GW1020:=aM ((by rw[hg];exact(by first|exact HK.out.1|exact(show Kept w _ (fun k_=>P0_3_ k_) from by exact Zq43_0).1):w.heap.size≤gb1020));have GE1020:=aM ((by rw[hg];exact(below_size TB):w0.heap.size≤gb1020));replace HO0_3:=mR HO0_3 hb;replace HK:=aM (Kept.below (S:=(fun k_=>P0_3_ k_)) (by exact Zq43_0) hb);replace HB:=bS HB hb;clear hb hbox hg;obtain⟨hcz6_0,hcz6_1,hcz6_2,hcz6_3⟩:=cz4 BK1020.out;obtain⟨hfz6_0,hfz6_1,hfz6_2,hfz6_3⟩:=fz4 BK1020.out)|(refine g_C 47 ?_;refine gL (some 8) Tryz.func47 #[.slice Ao4 l0_3.length co4,.int .i64 a1] ?_;(with_reducible refine(laws_markSumS.calls (fun k_=>some k_=(.slice Ao4 l0_3.length co4:Value).ownBlock) (.slice Ao4 l0_3.length co4) l0_3 a1 t1021 t1022 w0 _ ?side1 ?side2 A3.out).mono ?_);(case side1=>exact TB);(case side2=>exact Kd.R_tight rfl HO0_3.out);rintro e w7 ⟨rfl,hy0,hb,hkp⟩;refine⟨_,rfl,?_⟩;replace BK1020:=aM (blk_kept TK hkp (fun hs_=>(fun e_=>(Kd.R_ne HO0_3.out BK1020.out (by decide)) e_) hs_));replace HK:=aM (Kept.then_ (S:=(fun k_=>P0_3_ k_)) (by exact Zq43_0) hkp (fun k_ hs_=>(fun e_=>(HO0_3.out.1 k_ e_.symm)) hs_));replace HO0_3:=aM (Kd.R_reok rfl hy0 (fun k_ e_=>HO0_3.out.1 k_ e_));replace HB:=aM (hb);(try clear hb);(try clear hkp);(try clear hy0)))
  go_ret
  exact⟨TE,by have X_:=HO0_3.out;exact TR,TB,by repeat (first|(with_reducible first|exact HK.out|apply Kept.alloc|apply Kept.drewN|apply Kept.drew|refine Kept.setCell ?_ (.inr GW1020.out) _)|exact HK.out)⟩
def laws_markBuild.f (k:Nat)(a0_0:Int)(l0_1:List Int)(a1:Int):Option (Int×List Int):=(laws_markByteS.f k l0_1 a1).bind fun bt1024=>(some (bt1024.1,bt1024.2))
theorem laws_markBuild.mono :∀a0 a1 a2 k,LeO (laws_markBuild.f k a0 a1 a2) (laws_markBuild.f (k+1) a0 a1 a2):=by
  intro a0 a1 a2 k;have m0_:=@laws_markByteS.mono;unfold laws_markBuild.f;exact LM
theorem laws_markBuild.calls {k:Nat}{ae:Int}(aa:Nat→Prop)(ad:Value)(ac:List Int)(a1:Int)(r1:Int)(r2:List Int)(w0 w:World)(hB:Below w0.heap.size w0 w)(ho0_1:Kd.R (Kd.int .u8) 5 w w0.heap.size aa ad ac)(h:laws_markBuild.f k ae ac a1=some (r1,r2)):
  Calls Tryz.prog 18 #[.agg #[.int .i64 ae,ad],.int .i64 a1] w fun e w'=>e=.returned (.int .i64 r1)∧Kd.R (Kd.int .u8) 5 w' w0.heap.size (fun k_=>(aa k_∨w.heap.size≤k_)) ad r2∧Below w0.heap.size w0 w'∧Kept w w' (fun k_=>aa k_):=by
 have huq1:=Tryz.underlying47;have ab:=aM (show Kd.R (Kd.int .u8) 5 w w0.heap.size (fun k_=>(aa k_∨w.heap.size≤k_)) ad ac from Kd.R_mono ho0_1 (fun k_ hk=>(.inl hk)));have HK:=aM (Kept.refl w (fun k_=>aa k_));have HW0:=aM hB.size;have HB:=aM hB;clear hB;have H:=h;clear h;unfold laws_markBuild.f at H;replace H:=bE H;obtain⟨⟨tq1,tq2⟩,A3,H⟩:=H;dsimp only at H;simp only[Option.some.injEq,Prod.mk.injEq] at H;obtain⟨rfl,rfl⟩:=H;obtain⟨Ao4,co4,eo4⟩:=Kd.R_slice ab.out;subst eo4;go_enter Tryz.func18,Tryz.ntmps18;go_wp2_with (first|(refine g_D 2 ?_;refine gBx 2 #[.int .i64 ae,.slice Ao4 ac.length co4] 47 ?_;intro gbq1 hg w5 hbox hb;have BKq1:=aM (hbox);have GWq1:=aM ((by rw[hg];exact(by first|exact HK.out.1|exact(show Kept w _ (fun k_=>aa k_) from by exact Zq43_0).1):w.heap.size≤gbq1));have GEq1:=aM ((by rw[hg];exact(below_size TB):w0.heap.size≤gbq1));replace ab:=mR ab hb;replace HK:=aM (Kept.below (S:=(fun k_=>aa k_)) (by exact Zq43_0) hb);replace HB:=bS HB hb;clear hb hbox hg;obtain⟨hcz6_0,hcz6_1⟩:=cz2 BKq1.out;obtain⟨hfz6_0,hfz6_1⟩:=fz2 BKq1.out)|(refine g_C 45 ?_;refine gL (some 8) Tryz.func45 #[.slice Ao4 ac.length co4,.int .i64 a1] ?_;(with_reducible refine(laws_markByteS.calls (fun k_=>some k_=(.slice Ao4 ac.length co4:Value).ownBlock) (.slice Ao4 ac.length co4) ac a1 tq1 tq2 w0 _ ?side1 ?side2 A3.out).mono ?_);(case side1=>exact TB);(case side2=>exact Kd.R_tight rfl ab.out);rintro e w7 ⟨rfl,hy0,hb,hkp⟩;refine⟨_,rfl,?_⟩;replace BKq1:=aM (blk_kept TK hkp (fun hs_=>(fun e_=>(Kd.R_ne ab.out BKq1.out (by decide)) e_) hs_));replace HK:=aM (Kept.then_ (S:=(fun k_=>aa k_)) (by exact Zq43_0) hkp (fun k_ hs_=>(fun e_=>(ab.out.1 k_ e_.symm)) hs_));replace ab:=aM (Kd.R_reok rfl hy0 (fun k_ e_=>ab.out.1 k_ e_));replace HB:=aM (hb);(try clear hb);(try clear hkp);(try clear hy0)))
 go_ret
 exact⟨TE,by have X_:=ab.out;exact TR,TB,by repeat (first|(with_reducible first|exact HK.out|apply Kept.alloc|apply Kept.drewN|apply Kept.drew|refine Kept.setCell ?_ (.inr GWq1.out) _)|exact HK.out)⟩
theorem Zq44_0 {p:Prop}(h:p:=by repeat (first|exact(Kd.C_below HR1029_2.out (Below.refl _ _))|(with_reducible refine Kd.C_alloc ?_ _)|(with_reducible refine Kd.C_drewN ?_ _)|(with_reducible refine Kd.C_drew ?_))):p:=h
theorem Zq44_1 {p:Prop}(h:p:=by repeat (first|exact(Kd.C_below HRq1.out TB)|(with_reducible refine Kd.C_alloc ?_ _)|(with_reducible refine Kd.C_drewN ?_ _)|(with_reducible refine Kd.C_drew ?_))):p:=h
theorem Zq44_2 {p:Prop}(h:p:=by repeat (first|exact(Kd.C_below HRq2.out TB)|(with_reducible refine Kd.C_alloc ?_ _)|(with_reducible refine Kd.C_drewN ?_ _)|(with_reducible refine Kd.C_drew ?_))):p:=h
theorem Zq44_3 {p:Prop}(h:p:=by repeat (first|exact(Kd.C_below HRq3.out TB)|(with_reducible refine Kd.C_alloc ?_ _)|(with_reducible refine Kd.C_drewN ?_ _)|(with_reducible refine Kd.C_drew ?_))):p:=h
def laws_heldByteS.l0 :Nat→List Int→Int→Int→Option (Int)
  |0,_,_,_=>none
  |k+1,x0,x1,x5=>if x5<(x0.length:Int) then (if 0≤x5 then (if (rd x0 x5)=((x1) % 256) then (laws_heldByteS.l0 k x0 (wrap64 (x1+1)) (wrap64 (x5+1))) else (some (-1))) else (none)) else (some x1)
def laws_heldByteS.f (k:Nat)(l0:List Int)(a1:Int):Option (Int):=laws_heldByteS.l0 k l0 a1 0
theorem laws_heldByteS.mono_l :∀k,(∀y0 y1 y2,LeO (laws_heldByteS.l0 k y0 y1 y2) (laws_heldByteS.l0 (k+1) y0 y1 y2))
  |0=>fun _ _ _ r h=>by simp [laws_heldByteS.l0] at h
  | k+1=>by
    have ih0:=laws_heldByteS.mono_l k
    · intro y0 y1 y2
      unfold laws_heldByteS.l0
      exact LM
theorem laws_heldByteS.mono :∀a0 a1 k,LeO (laws_heldByteS.f k a0 a1) (laws_heldByteS.f (k+1) a0 a1):=by
  intro a0 a1 k;have ih0:=laws_heldByteS.mono_l k;unfold laws_heldByteS.f;exact LM
theorem laws_heldByteS.calls {k:Nat}{A0:Option Addr}{c0:Nat}{l0:List Int}{a1:Int}{r:Int}{w:World}(hr0:Kd.C (Kd.int .u8) w A0 l0.length l0)(hc0:l0.length≤c0)(h:laws_heldByteS.f k l0 a1=some r):
    Calls Tryz.prog 48 #[.slice A0 l0.length c0,.int .i64 a1] w fun e w'=>e=.returned (.int .i64 r)∧Drawn0 w w':=by
  have HR0:=aM hr0
  have HC0:=aM hc0
  clear hr0 hc0
  have H:=h
  clear h
  unfold laws_heldByteS.f at H
  have H':=aM H
  clear H
  go_enter Tryz.func48,Tryz.ntmps48
  go_wp2
  go_loopg [1,5] k (fun kq v1 v5 w'=>∃(x1_1:Int) (x5_1:Int),v1=.int .i64 x1_1∧v5=.int .i64 x5_1∧Aside0 (laws_heldByteS.l0 kq l0 x1_1 x5_1=some r)∧Aside0 (kq≤k)∧Drawn0 w w')
  case atStart=>exact⟨(a1),(0),TF,TF,H',⟨Nat.le_refl _⟩,TD⟩
  case round=>
    clear H'
    try clear p2
    obtain⟨x1_1,x5_1,rfl,rfl,HA,HK1,⟨m1,rfl⟩⟩:=hrel
    cases gk with
    |zero=>exact absurd HA.out (by simp [laws_heldByteS.l0])
    | succ k1=>
      have H:=HA.out
      clear HA
      simp only[laws_heldByteS.l0] at H
      by_cases c3:x5_1<(l0.length:Int)
      · rw[if_pos c3] at H
        have c3b0:decide (x5_1<(l0.length:Int))=true:=decide_eq_true c3
        clear c3
        replace H:=ifN H
        obtain⟨c4,H⟩:=H
        have c4b0:decide (0≤x5_1)=true:=decide_eq_true c4
        clear c4
        by_cases c5:(rd l0 x5_1)=((x1_1) % 256)
        · rw[if_pos c5] at H
          have c5b0:((rd l0 x5_1)==((x1_1) % 256))=true:=beq_iff_eq.mpr c5
          have c5b1:((rd l0 x5_1) != ((x1_1) % 256))=false:=bne_eq_false_iff_eq.mpr c5
          clear c5
          have H':=aM H
          clear H
          have p1026:0≤(x5_1:Int):=DT
          have q1026:x5_1<(l0.length:Int):=DT
          obtain⟨ad1026,e1026,hx1026_0⟩:=Kd.at_int HR0.out x5_1 p1026 q1026
          cases e1026
          replace p1026:=eq_true p1026
          replace q1026:=eq_true q1026
          go_wp2
          go_roundg k1
          case measure=>have:=HK1.out;omega
          case rel=>exact⟨(wrap64 (x1_1+1)),(wrap64 (x5_1+1)),TF,TF,H',⟨by have:=HK1.out;omega⟩,TD⟩
        · rw[if_neg c5] at H
          have c5b0:((rd l0 x5_1)==((x1_1) % 256))=false:=beq_eq_false_iff_ne.mpr c5
          have c5b1:((rd l0 x5_1) != ((x1_1) % 256))=true:=bne_iff_ne.mpr c5
          obtain rfl:=o_I H
          have p1026:0≤(x5_1:Int):=DT
          have q1026:x5_1<(l0.length:Int):=DT
          obtain⟨ad1026,e1026,hx1026_0⟩:=Kd.at_int HR0.out x5_1 p1026 q1026
          cases e1026
          replace p1026:=eq_true p1026
          replace q1026:=eq_true q1026
          go_wp2
          go_ret
          exact⟨by first|rfl|(simp;done)|(simp [*];done),TD⟩
      · rw[if_neg c3] at H
        have c3b0:decide (x5_1<(l0.length:Int))=false:=decide_eq_false c3
        clear c3
        obtain rfl:=o_I H
        go_wp2
        go_ret
        exact⟨by first|rfl|(simp;done)|(simp [*];done),TD⟩
def laws_heldPutS.l0 :Nat→List (S91)→Int→Int→Option (Int)
  |0,_,_,_=>none
  |k+1,x0,x1,x5=>if x5<(x0.length:Int) then (if 0≤x5 then (if ((rd_T91 x0 x5).f0)=x1 then (if ((rd_T91 x0 x5).f1)=(wrap64 (x1+1)) then ((laws_heldByteS.f k ((rd_T91 x0 x5).f2) (wrap64 ((wrap64 (x1+1))+1))).bind fun t1030=>(if t1030<0 then (some (-1)) else (if ((rd_T91 x0 x5).f3.f0)=t1030 then (if ((rd_T91 x0 x5).f3.f1)=(wrap64 (t1030+1)) then (if ((rd_T91 x0 x5).f3.f2)=(wrap64 ((wrap64 (t1030+1))+1)) then (laws_heldPutS.l0 k x0 (wrap64 ((wrap64 ((wrap64 (t1030+1))+1))+1)) (wrap64 (x5+1))) else (some (-1))) else (some (-1))) else (some (-1))))) else (some (-1))) else (some (-1))) else (none)) else (some x1)
def laws_heldPutS.f (k:Nat)(l0:List (S91))(a1:Int):Option (Int):=laws_heldPutS.l0 k l0 a1 0
theorem laws_heldPutS.mono_l :∀k,(∀y0 y1 y2,LeO (laws_heldPutS.l0 k y0 y1 y2) (laws_heldPutS.l0 (k+1) y0 y1 y2))
  |0=>fun _ _ _ r h=>by simp [laws_heldPutS.l0] at h
  | k+1=>by
    have m0_:=@laws_heldByteS.mono
    have ih0:=laws_heldPutS.mono_l k
    · intro y0 y1 y2
      unfold laws_heldPutS.l0
      exact LM
theorem laws_heldPutS.mono :∀a0 a1 k,LeO (laws_heldPutS.f k a0 a1) (laws_heldPutS.f (k+1) a0 a1):=by
  intro a0 a1 k;have m0_:=@laws_heldByteS.mono;have ih0:=laws_heldPutS.mono_l k;unfold laws_heldPutS.f;exact LM
theorem laws_heldPutS.calls {k:Nat}{A0:Option Addr}{c0:Nat}{l0:List (S91)}{a1:Int}{r:Int}{w:World}(hr0:Kd.C k91 w A0 l0.length l0)(hc0:l0.length≤c0)(h:laws_heldPutS.f k l0 a1=some r):
    Calls Tryz.prog 49 #[.slice A0 l0.length c0,.int .i64 a1] w fun e w'=>e=.returned (.int .i64 r)∧Drawn0 w w':=by
  have HR0:=aM hr0
  have HC0:=aM hc0
  clear hr0 hc0
  have H:=h
  clear h
  unfold laws_heldPutS.f at H
  have H':=aM H
  clear H
  go_enter Tryz.func49,Tryz.ntmps49
  go_wp2
  go_loopg [1,5] k (fun kq v1 v5 w'=>∃(x1_1:Int) (x5_1:Int),v1=.int .i64 x1_1∧v5=.int .i64 x5_1∧Aside0 (laws_heldPutS.l0 kq l0 x1_1 x5_1=some r)∧Aside0 (kq≤k)∧Drawn0 w w')
  case atStart=>exact⟨(a1),(0),TF,TF,H',⟨Nat.le_refl _⟩,TD⟩
  case round=>
    clear H'
    try clear p2
    obtain⟨x1_1,x5_1,rfl,rfl,HA,HK1,⟨m1,rfl⟩⟩:=hrel
    cases gk with
    |zero=>exact absurd HA.out (by simp [laws_heldPutS.l0])
    | succ k1=>
      have H:=HA.out
      clear HA
      simp only[laws_heldPutS.l0] at H
      by_cases c3:x5_1<(l0.length:Int)
      · rw[if_pos c3] at H
        have c3b0:decide (x5_1<(l0.length:Int))=true:=decide_eq_true c3
        clear c3
        replace H:=ifN H
        obtain⟨c4,H⟩:=H
        have c4b0:decide (0≤x5_1)=true:=decide_eq_true c4
        clear c4
        by_cases c5:((rd_T91 l0 x5_1).f0)=x1_1
        · rw[if_pos c5] at H
          have c5b0:(((rd_T91 l0 x5_1).f0)==x1_1)=true:=beq_iff_eq.mpr c5
          have c5b1:(((rd_T91 l0 x5_1).f0) != x1_1)=false:=bne_eq_false_iff_eq.mpr c5
          clear c5
          by_cases c6:((rd_T91 l0 x5_1).f1)=(wrap64 (x1_1+1))
          · rw[if_pos c6] at H
            have c6b0:(((rd_T91 l0 x5_1).f1)==(wrap64 (x1_1+1)))=true:=beq_iff_eq.mpr c6
            have c6b1:(((rd_T91 l0 x5_1).f1) != (wrap64 (x1_1+1)))=false:=bne_eq_false_iff_eq.mpr c6
            clear c6
            replace H:=bE H
            obtain⟨t1030,A7,H⟩:=H
            have p1027:0≤(x5_1:Int):=DT
            have q1027:x5_1<(l0.length:Int):=DT
            obtain⟨ad1027,A1027_2,c1027_2,e1027,hx1027_0,hx1027_1,hx1027_2,hx1027_3,hx1027_4,hx1027_5,hl1027_2,hi1027_2⟩:=at_T91 HR0.out x5_1 p1027 q1027
            cases e1027
            have HR1027_2:=aM hi1027_2
            have HC1027_2:=aM hl1027_2
            clear hi1027_2 hl1027_2
            replace p1027:=eq_true p1027
            replace q1027:=eq_true q1027
            have p1028:0≤(x5_1:Int):=DT
            have q1028:x5_1<(l0.length:Int):=DT
            obtain⟨ad1028,A1028_2,c1028_2,e1028,hx1028_0,hx1028_1,hx1028_2,hx1028_3,hx1028_4,hx1028_5,hl1028_2,hi1028_2⟩:=at_T91 HR0.out x5_1 p1028 q1028
            obtain rfl:ad1027=ad1028:=(by injection e1028)
            have HR1028_2:=aM hi1028_2
            have HC1028_2:=aM hl1028_2
            clear hi1028_2 hl1028_2
            replace p1028:=eq_true p1028
            replace q1028:=eq_true q1028
            have ea_:=Option.some.inj (hx1027_2.symm.trans hx1028_2)
            injection ea_ with ea_ en_ ec_
            subst ea_
            subst ec_
            clear en_
            have p1029:0≤(x5_1:Int):=DT
            have q1029:x5_1<(l0.length:Int):=DT
            obtain⟨ad1029,A1029_2,c1029_2,e1029,hx1029_0,hx1029_1,hx1029_2,hx1029_3,hx1029_4,hx1029_5,hl1029_2,hi1029_2⟩:=at_T91 HR0.out x5_1 p1029 q1029
            obtain rfl:ad1027=ad1029:=(by injection e1029)
            have HR1029_2:=aM hi1029_2
            have HC1029_2:=aM hl1029_2
            clear hi1029_2 hl1029_2
            replace p1029:=eq_true p1029
            replace q1029:=eq_true q1029
            have ea_:=Option.some.inj (hx1027_2.symm.trans hx1029_2)
            injection ea_ with ea_ en_ ec_
            subst ea_
            subst ec_
            clear en_
            go_wp2_with (first|(refine g_C 48 ?_;refine g_D 36 ?_;generalize hG_:wpList _ _ _ _ _ _=G_))
            subst hG_
            by_cases c8:t1030<0
            · rw[if_pos c8] at H
              have c8b0:decide (t1030<0)=true:=decide_eq_true c8
              clear c8
              obtain rfl:=o_I H
              go_wp2_with (first|(refine g_C 48 ?_;refine gL (some 36) Tryz.func48 #[.slice A1027_2 ((rd_T91 l0 x5_1).f2).length c1027_2,.int .i64 (wrap64 ((wrap64 (x1_1+1))+1))] ?_;(with_reducible refine(laws_heldByteS.calls ?side1 ?side2 A7.out).mono ?_);(case side1=>exact Zq44_0);(case side2=>exact HC1029_2.out);rintro e w' ⟨rfl,⟨nd,rfl⟩⟩;refine⟨_,rfl,?_⟩))
              go_ret
              exact⟨by first|rfl|(simp;done)|(simp [*];done),TD⟩
            · rw[if_neg c8] at H
              have c8b0:decide (t1030<0)=false:=decide_eq_false c8
              clear c8
              by_cases c9:((rd_T91 l0 x5_1).f3.f0)=t1030
              · rw[if_pos c9] at H
                have c9b0:(((rd_T91 l0 x5_1).f3.f0)==t1030)=true:=beq_iff_eq.mpr c9
                have c9b1:(((rd_T91 l0 x5_1).f3.f0) != t1030)=false:=bne_eq_false_iff_eq.mpr c9
                clear c9
                by_cases c10:((rd_T91 l0 x5_1).f3.f1)=(wrap64 (t1030+1))
                · rw[if_pos c10] at H
                  have c10b0:(((rd_T91 l0 x5_1).f3.f1)==(wrap64 (t1030+1)))=true:=beq_iff_eq.mpr c10
                  have c10b1:(((rd_T91 l0 x5_1).f3.f1) != (wrap64 (t1030+1)))=false:=bne_eq_false_iff_eq.mpr c10
                  clear c10
                  by_cases c11:((rd_T91 l0 x5_1).f3.f2)=(wrap64 ((wrap64 (t1030+1))+1))
                  · rw[if_pos c11] at H
                    have c11b0:(((rd_T91 l0 x5_1).f3.f2)==(wrap64 ((wrap64 (t1030+1))+1)))=true:=beq_iff_eq.mpr c11
                    have c11b1:(((rd_T91 l0 x5_1).f3.f2) != (wrap64 ((wrap64 (t1030+1))+1)))=false:=bne_eq_false_iff_eq.mpr c11
                    clear c11
                    have H':=aM H
                    clear H
                    go_wp2_with (first|(refine g_C 48 ?_;refine gL (some 36) Tryz.func48 #[.slice A1027_2 ((rd_T91 l0 x5_1).f2).length c1027_2,.int .i64 (wrap64 ((wrap64 (x1_1+1))+1))] ?_;(with_reducible refine(laws_heldByteS.calls ?side1 ?side2 A7.out).mono ?_);(case side1=>exact Zq44_0);(case side2=>exact HC1029_2.out);rintro e w' ⟨rfl,⟨nd,rfl⟩⟩;refine⟨_,rfl,?_⟩;have p1031:0≤(x5_1:Int):=DT;have q1031:x5_1<(l0.length:Int):=DT;obtain⟨ad1031,A1031_2,c1031_2,e1031,hx1031_0,hx1031_1,hx1031_2,hx1031_3,hx1031_4,hx1031_5,hl1031_2,hi1031_2⟩:=at_T91 HR0.out x5_1 p1031 q1031;obtain rfl:ad1027=ad1031:=(by injection e1031);have HR1031_2:=aM hi1031_2;have HC1031_2:=aM hl1031_2;clear hi1031_2 hl1031_2;replace p1031:=eq_true p1031;replace q1031:=eq_true q1031;have p1032:0≤(x5_1:Int):=DT;have q1032:x5_1<(l0.length:Int):=DT;obtain⟨ad1032,A1032_2,c1032_2,e1032,hx1032_0,hx1032_1,hx1032_2,hx1032_3,hx1032_4,hx1032_5,hl1032_2,hi1032_2⟩:=at_T91 HR0.out x5_1 p1032 q1032;obtain rfl:ad1027=ad1032:=(by injection e1032);have HR1032_2:=aM hi1032_2;have HC1032_2:=aM hl1032_2;clear hi1032_2 hl1032_2;replace p1032:=eq_true p1032;replace q1032:=eq_true q1032;have ea_:=Option.some.inj (hx1031_2.symm.trans hx1032_2);injection ea_ with ea_ en_ ec_;subst ea_;subst ec_;clear en_;have p1033:0≤(x5_1:Int):=DT;have q1033:x5_1<(l0.length:Int):=DT;obtain⟨ad1033,A1033_2,c1033_2,e1033,hx1033_0,hx1033_1,hx1033_2,hx1033_3,hx1033_4,hx1033_5,hl1033_2,hi1033_2⟩:=at_T91 HR0.out x5_1 p1033 q1033;obtain rfl:ad1027=ad1033:=(by injection e1033);have HR1033_2:=aM hi1033_2;have HC1033_2:=aM hl1033_2;clear hi1033_2 hl1033_2;replace p1033:=eq_true p1033;replace q1033:=eq_true q1033;have ea_:=Option.some.inj (hx1031_2.symm.trans hx1033_2);injection ea_ with ea_ en_ ec_;subst ea_;subst ec_;clear en_))
                    go_roundg k1
                    case measure=>have:=HK1.out;omega
                    case rel=>exact⟨(wrap64 ((wrap64 ((wrap64 (t1030+1))+1))+1)),(wrap64 (x5_1+1)),TF,TF,H',⟨by have:=HK1.out;omega⟩,TD⟩
                  · rw[if_neg c11] at H
                    have c11b0:(((rd_T91 l0 x5_1).f3.f2)==(wrap64 ((wrap64 (t1030+1))+1)))=false:=beq_eq_false_iff_ne.mpr c11
                    have c11b1:(((rd_T91 l0 x5_1).f3.f2) != (wrap64 ((wrap64 (t1030+1))+1)))=true:=bne_iff_ne.mpr c11
                    obtain rfl:=o_I H
                    go_wp2_with (first|(refine g_C 48 ?_;refine gL (some 36) Tryz.func48 #[.slice A1027_2 ((rd_T91 l0 x5_1).f2).length c1027_2,.int .i64 (wrap64 ((wrap64 (x1_1+1))+1))] ?_;(with_reducible refine(laws_heldByteS.calls ?side1 ?side2 A7.out).mono ?_);(case side1=>exact Zq44_0);(case side2=>exact HC1029_2.out);rintro e w' ⟨rfl,⟨nd,rfl⟩⟩;refine⟨_,rfl,?_⟩;have p1031:0≤(x5_1:Int):=DT;have q1031:x5_1<(l0.length:Int):=DT;obtain⟨ad1031,A1031_2,c1031_2,e1031,hx1031_0,hx1031_1,hx1031_2,hx1031_3,hx1031_4,hx1031_5,hl1031_2,hi1031_2⟩:=at_T91 HR0.out x5_1 p1031 q1031;obtain rfl:ad1027=ad1031:=(by injection e1031);have HR1031_2:=aM hi1031_2;have HC1031_2:=aM hl1031_2;clear hi1031_2 hl1031_2;replace p1031:=eq_true p1031;replace q1031:=eq_true q1031;have p1032:0≤(x5_1:Int):=DT;have q1032:x5_1<(l0.length:Int):=DT;obtain⟨ad1032,A1032_2,c1032_2,e1032,hx1032_0,hx1032_1,hx1032_2,hx1032_3,hx1032_4,hx1032_5,hl1032_2,hi1032_2⟩:=at_T91 HR0.out x5_1 p1032 q1032;obtain rfl:ad1027=ad1032:=(by injection e1032);have HR1032_2:=aM hi1032_2;have HC1032_2:=aM hl1032_2;clear hi1032_2 hl1032_2;replace p1032:=eq_true p1032;replace q1032:=eq_true q1032;have ea_:=Option.some.inj (hx1031_2.symm.trans hx1032_2);injection ea_ with ea_ en_ ec_;subst ea_;subst ec_;clear en_;have p1033:0≤(x5_1:Int):=DT;have q1033:x5_1<(l0.length:Int):=DT;obtain⟨ad1033,A1033_2,c1033_2,e1033,hx1033_0,hx1033_1,hx1033_2,hx1033_3,hx1033_4,hx1033_5,hl1033_2,hi1033_2⟩:=at_T91 HR0.out x5_1 p1033 q1033;obtain rfl:ad1027=ad1033:=(by injection e1033);have HR1033_2:=aM hi1033_2;have HC1033_2:=aM hl1033_2;clear hi1033_2 hl1033_2;replace p1033:=eq_true p1033;replace q1033:=eq_true q1033;have ea_:=Option.some.inj (hx1031_2.symm.trans hx1033_2);injection ea_ with ea_ en_ ec_;subst ea_;subst ec_;clear en_))
                    go_ret
                    exact⟨by first|rfl|(simp;done)|(simp [*];done),TD⟩
                · rw[if_neg c10] at H
                  have c10b0:(((rd_T91 l0 x5_1).f3.f1)==(wrap64 (t1030+1)))=false:=beq_eq_false_iff_ne.mpr c10
                  have c10b1:(((rd_T91 l0 x5_1).f3.f1) != (wrap64 (t1030+1)))=true:=bne_iff_ne.mpr c10
                  obtain rfl:=o_I H
                  go_wp2_with (first|(refine g_C 48 ?_;refine gL (some 36) Tryz.func48 #[.slice A1027_2 ((rd_T91 l0 x5_1).f2).length c1027_2,.int .i64 (wrap64 ((wrap64 (x1_1+1))+1))] ?_;(with_reducible refine(laws_heldByteS.calls ?side1 ?side2 A7.out).mono ?_);(case side1=>exact Zq44_0);(case side2=>exact HC1029_2.out);rintro e w' ⟨rfl,⟨nd,rfl⟩⟩;refine⟨_,rfl,?_⟩;have p1031:0≤(x5_1:Int):=DT;have q1031:x5_1<(l0.length:Int):=DT;obtain⟨ad1031,A1031_2,c1031_2,e1031,hx1031_0,hx1031_1,hx1031_2,hx1031_3,hx1031_4,hx1031_5,hl1031_2,hi1031_2⟩:=at_T91 HR0.out x5_1 p1031 q1031;obtain rfl:ad1027=ad1031:=(by injection e1031);have HR1031_2:=aM hi1031_2;have HC1031_2:=aM hl1031_2;clear hi1031_2 hl1031_2;replace p1031:=eq_true p1031;replace q1031:=eq_true q1031;have p1032:0≤(x5_1:Int):=DT;have q1032:x5_1<(l0.length:Int):=DT;obtain⟨ad1032,A1032_2,c1032_2,e1032,hx1032_0,hx1032_1,hx1032_2,hx1032_3,hx1032_4,hx1032_5,hl1032_2,hi1032_2⟩:=at_T91 HR0.out x5_1 p1032 q1032;obtain rfl:ad1027=ad1032:=(by injection e1032);have HR1032_2:=aM hi1032_2;have HC1032_2:=aM hl1032_2;clear hi1032_2 hl1032_2;replace p1032:=eq_true p1032;replace q1032:=eq_true q1032;have ea_:=Option.some.inj (hx1031_2.symm.trans hx1032_2);injection ea_ with ea_ en_ ec_;subst ea_;subst ec_;clear en_))
                  go_ret
                  exact⟨by first|rfl|(simp;done)|(simp [*];done),TD⟩
              · rw[if_neg c9] at H
                have c9b0:(((rd_T91 l0 x5_1).f3.f0)==t1030)=false:=beq_eq_false_iff_ne.mpr c9
                have c9b1:(((rd_T91 l0 x5_1).f3.f0) != t1030)=true:=bne_iff_ne.mpr c9
                obtain rfl:=o_I H
                go_wp2_with (first|(refine g_C 48 ?_;refine gL (some 36) Tryz.func48 #[.slice A1027_2 ((rd_T91 l0 x5_1).f2).length c1027_2,.int .i64 (wrap64 ((wrap64 (x1_1+1))+1))] ?_;(with_reducible refine(laws_heldByteS.calls ?side1 ?side2 A7.out).mono ?_);(case side1=>exact Zq44_0);(case side2=>exact HC1029_2.out);rintro e w' ⟨rfl,⟨nd,rfl⟩⟩;refine⟨_,rfl,?_⟩;have p1031:0≤(x5_1:Int):=DT;have q1031:x5_1<(l0.length:Int):=DT;obtain⟨ad1031,A1031_2,c1031_2,e1031,hx1031_0,hx1031_1,hx1031_2,hx1031_3,hx1031_4,hx1031_5,hl1031_2,hi1031_2⟩:=at_T91 HR0.out x5_1 p1031 q1031;obtain rfl:ad1027=ad1031:=(by injection e1031);have HR1031_2:=aM hi1031_2;have HC1031_2:=aM hl1031_2;clear hi1031_2 hl1031_2;replace p1031:=eq_true p1031;replace q1031:=eq_true q1031))
                go_ret
                exact⟨by first|rfl|(simp;done)|(simp [*];done),TD⟩
          · rw[if_neg c6] at H
            have c6b0:(((rd_T91 l0 x5_1).f1)==(wrap64 (x1_1+1)))=false:=beq_eq_false_iff_ne.mpr c6
            have c6b1:(((rd_T91 l0 x5_1).f1) != (wrap64 (x1_1+1)))=true:=bne_iff_ne.mpr c6
            obtain rfl:=o_I H
            have p1027:0≤(x5_1:Int):=DT
            have q1027:x5_1<(l0.length:Int):=DT
            obtain⟨ad1027,A1027_2,c1027_2,e1027,hx1027_0,hx1027_1,hx1027_2,hx1027_3,hx1027_4,hx1027_5,hl1027_2,hi1027_2⟩:=at_T91 HR0.out x5_1 p1027 q1027
            cases e1027
            have HR1027_2:=aM hi1027_2
            have HC1027_2:=aM hl1027_2
            clear hi1027_2 hl1027_2
            replace p1027:=eq_true p1027
            replace q1027:=eq_true q1027
            have p1028:0≤(x5_1:Int):=DT
            have q1028:x5_1<(l0.length:Int):=DT
            obtain⟨ad1028,A1028_2,c1028_2,e1028,hx1028_0,hx1028_1,hx1028_2,hx1028_3,hx1028_4,hx1028_5,hl1028_2,hi1028_2⟩:=at_T91 HR0.out x5_1 p1028 q1028
            obtain rfl:ad1027=ad1028:=(by injection e1028)
            have HR1028_2:=aM hi1028_2
            have HC1028_2:=aM hl1028_2
            clear hi1028_2 hl1028_2
            replace p1028:=eq_true p1028
            replace q1028:=eq_true q1028
            have ea_:=Option.some.inj (hx1027_2.symm.trans hx1028_2)
            injection ea_ with ea_ en_ ec_
            subst ea_
            subst ec_
            clear en_
            go_wp2
            go_ret
            exact⟨by first|rfl|(simp;done)|(simp [*];done),TD⟩
        · rw[if_neg c5] at H
          have c5b0:(((rd_T91 l0 x5_1).f0)==x1_1)=false:=beq_eq_false_iff_ne.mpr c5
          have c5b1:(((rd_T91 l0 x5_1).f0) != x1_1)=true:=bne_iff_ne.mpr c5
          obtain rfl:=o_I H
          have p1027:0≤(x5_1:Int):=DT
          have q1027:x5_1<(l0.length:Int):=DT
          obtain⟨ad1027,A1027_2,c1027_2,e1027,hx1027_0,hx1027_1,hx1027_2,hx1027_3,hx1027_4,hx1027_5,hl1027_2,hi1027_2⟩:=at_T91 HR0.out x5_1 p1027 q1027
          cases e1027
          have HR1027_2:=aM hi1027_2
          have HC1027_2:=aM hl1027_2
          clear hi1027_2 hl1027_2
          replace p1027:=eq_true p1027
          replace q1027:=eq_true q1027
          go_wp2
          go_ret
          exact⟨by first|rfl|(simp;done)|(simp [*];done),TD⟩
      · rw[if_neg c3] at H
        have c3b0:decide (x5_1<(l0.length:Int))=false:=decide_eq_false c3
        clear c3
        obtain rfl:=o_I H
        go_wp2
        go_ret
        exact⟨by first|rfl|(simp;done)|(simp [*];done),TD⟩
def laws_heldDisk.f (k:Nat)(l0_0:List Int)(l0_1:List Int)(a0_2:Int)(a0_3:Int)(a0_4:Int)(l0_5:List (S91))(a1:Int):Option (Int):=(laws_heldByteS.f k l0_0 a1).bind fun t1035=>(if t1035<0 then (some (-1)) else ((laws_heldByteS.f k l0_1 t1035).bind fun t1036=>(if t1036<0 then (some (-1)) else ((laws_heldPutS.f k l0_5 t1036).bind fun t1037=>(if t1037<0 then (some (-1)) else (some t1037))))))
theorem laws_heldDisk.mono :∀a0 a1 a2 a3 a4 a5 a6 k,LeO (laws_heldDisk.f k a0 a1 a2 a3 a4 a5 a6) (laws_heldDisk.f (k+1) a0 a1 a2 a3 a4 a5 a6):=by
  intro a0 a1 a2 a3 a4 a5 a6 k;have m0_:=@laws_heldByteS.mono;have m1_:=@laws_heldPutS.mono;unfold laws_heldDisk.f;exact LM
theorem Yq44_0 {p:Prop}(h:p:=by
 clear cq1;obtain rfl:=o_I H;go_wp2_with (first|(refine g_C 49 ?_;refine gL (some 20) Tryz.func49 #[.slice ag ae.length ai,.int .i64 aa] ?_;(with_reducible refine(laws_heldPutS.calls ?side1 ?side2 Aq2.out).mono ?_);(case side1=>exact Zq44_3);(case side2=>exact HCq3.out);rintro e w' ⟨rfl,⟨nd,rfl⟩⟩;refine⟨_,rfl,?_⟩))
 go_ret
 exact⟨TE,TB⟩):p:=h
theorem laws_heldDisk.calls {k:Nat}{al:Option Addr}{ak:Nat}{ad:List Int}{aj:Option Addr}{ah:Nat}{ac:List Int}{am:Int}{ao:Int}{an:Int}{ag:Option Addr}{ai:Nat}{ae:List (S91)}{a1:Int}{r:Int}{w:World}(aq:Kd.C (Kd.int .u8) w al ad.length ad)(av:ad.length≤ak)(au:Kd.C (Kd.int .u8) w aj ac.length ac)(ar:ac.length≤ah)(ap:Kd.C k91 w ag ae.length ae)(aw:ae.length≤ai)(h:laws_heldDisk.f k ad ac am ao an ae a1=some r):
  Calls Tryz.prog 19 #[.agg #[.slice al ad.length ak,.slice aj ac.length ah,.int .i64 am,.int .i64 ao,.int .i64 an,.slice ag ae.length ai],.int .i64 a1] w fun e w'=>e=.returned (.int .i64 r)∧Below w.heap.size w w':=by
 have huq1:=Tryz.underlying39;have HRq1:=aM aq;have HCq1:=aM av;clear aq av;have HRq2:=aM au;have HCq2:=aM ar;clear au ar;have HRq3:=aM ap;have HCq3:=aM aw;clear ap aw;have HB:=aM (Below.refl w.heap.size w);have H:=h;clear h;unfold laws_heldDisk.f at H;replace H:=bE H;obtain⟨ab,Aq1,H⟩:=H;go_enter Tryz.func19,Tryz.ntmps19;go_wp2_with (first|(refine g_D 2 ?_;refine gBx 2 #[.slice al ad.length ak,.slice aj ac.length ah,.int .i64 am,.int .i64 ao,.int .i64 an,.slice ag ae.length ai] 39 ?_;intro gbq1 hg wq1 hbox hb;have BKq1:=aM (hbox);have GWq1:=gW HB hg;have GEq1:=gW HB hg;replace HB:=bS HB hb;clear hb hbox hg;obtain⟨hczq1,hczq2,hczq3,hczq4,hczq5,hczq6⟩:=cz6 BKq1.out;obtain⟨hfzq1,hfzq2,hfzq3,hfzq4,hfzq5,hfzq6⟩:=fz6 BKq1.out)|(refine g_C 48 ?_;refine g_D 8 ?_;generalize hG_:wpList _ _ _ _ _ _=G_))
 subst hG_
 by_cases c6:ab<0
 ·rw[if_pos c6] at H;have c6b0:decide (ab<0)=true:=decide_eq_true c6;clear c6;obtain rfl:=o_I H;go_wp2_with (first|(refine g_C 48 ?_;refine gL (some 8) Tryz.func48 #[.slice al ad.length ak,.int .i64 a1] ?_;(with_reducible refine(laws_heldByteS.calls ?side1 ?side2 Aq1.out).mono ?_);(case side1=>exact Zq44_1);(case side2=>exact HCq1.out);rintro e w' ⟨rfl,⟨nd,rfl⟩⟩;refine⟨_,rfl,?_⟩))
  go_ret
  exact⟨TE,TB⟩
 ·rw[if_neg c6] at H;have c6b0:decide (ab<0)=false:=decide_eq_false c6;clear c6;replace H:=bE H;obtain⟨aa,A7,H⟩:=H;go_wp2_with (first|(refine g_C 48 ?_;refine gL (some 8) Tryz.func48 #[.slice al ad.length ak,.int .i64 a1] ?_;(with_reducible refine(laws_heldByteS.calls ?side1 ?side2 Aq1.out).mono ?_);(case side1=>exact Zq44_1);(case side2=>exact HCq1.out);rintro e w' ⟨rfl,⟨nd,rfl⟩⟩;refine⟨_,rfl,?_⟩;obtain⟨hczq7,hczq8,hczq9,hczq10,hczq11,hczq12⟩:=cz6 BKq1.out;obtain⟨hfzq7,hfzq8,hfzq9,hfzq10,hfzq11,hfzq12⟩:=fz6 BKq1.out)|(refine g_C 48 ?_;refine g_D 14 ?_;generalize hG_:wpList _ _ _ _ _ _=G_))
  subst hG_
  by_cases c9:aa<0
  ·rw[if_pos c9] at H;have c9b0:decide (aa<0)=true:=decide_eq_true c9;clear c9;obtain rfl:=o_I H;go_wp2_with (first|(refine g_C 48 ?_;refine gL (some 14) Tryz.func48 #[.slice aj ac.length ah,.int .i64 ab] ?_;(with_reducible refine(laws_heldByteS.calls ?side1 ?side2 A7.out).mono ?_);(case side1=>exact Zq44_2);(case side2=>exact HCq2.out);rintro e w' ⟨rfl,⟨nd,rfl⟩⟩;refine⟨_,rfl,?_⟩))
   go_ret
   exact⟨TE,TB⟩
  ·rw[if_neg c9] at H;have c9b0:decide (aa<0)=false:=decide_eq_false c9;clear c9;replace H:=bE H;obtain⟨af,Aq2,H⟩:=H;go_wp2_with (first|(refine g_C 48 ?_;refine gL (some 14) Tryz.func48 #[.slice aj ac.length ah,.int .i64 ab] ?_;(with_reducible refine(laws_heldByteS.calls ?side1 ?side2 A7.out).mono ?_);(case side1=>exact Zq44_2);(case side2=>exact HCq2.out);rintro e w' ⟨rfl,⟨nd,rfl⟩⟩;refine⟨_,rfl,?_⟩;obtain⟨hczq13,hczq14,hczq15,hczq16,hczq17,hczq18⟩:=cz6 BKq1.out;obtain⟨hfzq13,hfzq14,hfzq15,hfzq16,hfzq17,hfzq18⟩:=fz6 BKq1.out)|(refine g_C 49 ?_;refine g_D 20 ?_;generalize hG_:wpList _ _ _ _ _ _=G_))
   subst hG_
   by_cases cq1:af<0
   ·rw[if_pos cq1] at H;have cq2:decide (af<0)=true:=decide_eq_true cq1;exact Yq44_0
   ·rw[if_neg cq1] at H;have cq2:decide (af<0)=false:=decide_eq_false cq1;exact Yq44_0
end Go.Proofs.YtjgmkkogmfogbaaGreat.Q
