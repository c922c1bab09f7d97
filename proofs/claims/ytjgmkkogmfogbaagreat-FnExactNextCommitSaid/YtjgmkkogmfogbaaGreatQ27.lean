/- Functions of the program as plain Lean functions, and that a call of each comes to what its function tells. -/
import Derived.Test.YtjgmkkogmfogbaaGreatQ5
import Derived.Test.YtjgmkkogmfogbaaGreatQ24
set_option maxHeartbeats 40000000
set_option maxRecDepth 100000
namespace Go.Proofs.YtjgmkkogmfogbaaGreat.Q
open Go.RowKit Go.Proofs.YtjgmkkogmfogbaaGreatW.PrintWords Go.Proofs.YtjgmkkogmfogbaaGreatW.PrintLast Go.Proofs.YtjgmkkogmfogbaaGreatW.PrintMore
attribute [local go_sem] min2_int min_two
set_option linter.unusedVariables false
set_option linter.unusedSimpArgs false
theorem Zq26_0 {p:Prop}(h:p:=by (with_reducible repeat (first|apply Kd.V_alloc|apply Kd.V_drewN|apply Kd.V_drew));exact HO0_1.out):p:=h
def impl_SetOk.f (a0:Int):Option (Bool):=(impl_within.f a0 0 1099511627775).bind fun t631=>(some t631)
theorem impl_SetOk.calls {a0:Int}{r:Bool}{w:World}(h:impl_SetOk.f a0=some r):
    Calls Tryz.prog 93 #[.int .i64 a0] w fun e w'=>e=.returned (.bool r)∧Drawn0 w w':=by
  have H:=h
  clear h
  unfold impl_SetOk.f at H
  replace H:=bE H
  obtain⟨t631,A2,H⟩:=H
  obtain rfl:=o_I H
  go_enter Tryz.func93,Tryz.ntmps93
  go_wp2_with (first|(refine g_C 106 ?_;refine gL (some 4) Tryz.func106 #[.int .i64 a0,.int .i64 0,.int .i64 1099511627775] ?_;(with_reducible refine(impl_within.calls A2.out).mono ?_);rintro e w' ⟨rfl,⟨nd,rfl⟩⟩;refine⟨_,rfl,?_⟩))
  go_ret
  exact⟨by first|rfl|(simp;done)|(simp [*];done),TD⟩
def impl_FullSet.f (a0:Int):Option (Int):=(impl_within.f a0 0 40).bind fun t632=>(if t632=true then (if 0≤a0 then (some (wrap64 ((shl .i64 1 a0) - 1))) else (none)) else (some 0))
theorem impl_FullSet.calls {a0:Int}{r:Int}{w:World}(h:impl_FullSet.f a0=some r):
    Calls Tryz.prog 118 #[.int .i64 a0] w fun e w'=>e=.returned (.int .i64 r)∧Drawn0 w w':=by
  have H:=h
  clear h
  unfold impl_FullSet.f at H
  replace H:=bE H
  obtain⟨t632,A2,H⟩:=H
  by_cases c3:t632=true
  · subst c3
    replace H:=ifT H
    replace H:=ifN H
    obtain⟨c4,H⟩:=H
    have c4b0:=eq_true c4
    have c4b1:decide (0≤a0)=true:=decide_eq_true c4
    clear c4
    obtain⟨ji5,hji5⟩:∃j_:Int,(shl .i64 1 a0)=j_:=⟨_,rfl⟩
    (first|rw[hji5] at H|simp only[hji5] at H|skip)
    (try rw[hji5] at A2)
    have hji5_:(IntKind.i64.wrap (1 * 2 ^ min a0.toNat 64))=ji5:=hji5
    have hji5z:a0≤64→(IntKind.i64.wrap (1 * 2 ^ a0.toNat))=ji5:=shl_small hji5
    have hji5u:(IntKind.i64.wrap (2 ^ min a0.toNat 64))=ji5:=by have h_:=hji5_;rw[Int.one_mul] at h_;exact h_
    have hji5v:a0≤64→(IntKind.i64.wrap (2 ^ a0.toNat))=ji5:=fun hle_=>by have h_:=hji5z hle_;rw[Int.one_mul] at h_;exact h_
    have hji5y:(wrap64 (1 * 2 ^ min a0.toNat 64))=ji5:=(i64_w _).symm.trans hji5_
    have hji5x:a0≤64→(wrap64 (1 * 2 ^ a0.toNat))=ji5:=fun h_=>(i64_w _).symm.trans (hji5z h_)
    obtain rfl:=o_I H
    go_enter Tryz.func118,Tryz.ntmps118
    go_wp2_with (first|(refine g_C 106 ?_;refine gL (some 4) Tryz.func106 #[.int .i64 a0,.int .i64 0,.int .i64 40] ?_;(with_reducible refine(impl_within.calls A2.out).mono ?_);rintro e w' ⟨rfl,⟨nd,rfl⟩⟩;refine⟨_,rfl,?_⟩))
    go_ret
    exact⟨by first|rfl|(simp;done)|(simp only[← hji5]<;>(first|rfl|simp))|(simp [*];done),TD⟩
  · replace c3:=b_F c3
    subst c3
    replace H:=ifF H
    obtain rfl:=o_I H
    go_enter Tryz.func118,Tryz.ntmps118
    go_wp2_with (first|(refine g_C 106 ?_;refine gL (some 4) Tryz.func106 #[.int .i64 a0,.int .i64 0,.int .i64 40] ?_;(with_reducible refine(impl_within.calls A2.out).mono ?_);rintro e w' ⟨rfl,⟨nd,rfl⟩⟩;refine⟨_,rfl,?_⟩))
    go_ret
    exact⟨by first|rfl|(simp;done)|(simp [*];done),TD⟩
def impl_AllParts.f (a0_0:Int)(a0_1:Int)(a0_2:Int)(l0_3:List (S96)):Option (Int):=(impl_FullSet.f (l0_3.length:Int)).bind fun t634=>(some t634)
theorem impl_AllParts.calls {a0_0:Int}{a0_1:Int}{a0_2:Int}{A0_3:Option Addr}{c0_3:Nat}{l0_3:List (S96)}{r:Int}{w:World}(hr0_3:Kd.C k96 w A0_3 l0_3.length l0_3)(hc0_3:l0_3.length≤c0_3)(h:impl_AllParts.f a0_0 a0_1 a0_2 l0_3=some r):
    Calls Tryz.prog 94 #[.agg #[.int .i64 a0_0,.int .i64 a0_1,.int .i64 a0_2,.slice A0_3 l0_3.length c0_3]] w fun e w'=>e=.returned (.int .i64 r)∧Below w.heap.size w w':=by
  have hu45:=Tryz.underlying45
  have HR0_3:=aM hr0_3
  have HC0_3:=aM hc0_3
  clear hr0_3 hc0_3
  have HB:=aM (Below.refl w.heap.size w)
  have H:=h
  clear h
  unfold impl_AllParts.f at H
  replace H:=bE H
  obtain⟨t634,A2,H⟩:=H
  obtain rfl:=o_I H
  go_enter Tryz.func94,Tryz.ntmps94
  go_wp2_with (first|(refine g_D 1 ?_;refine gBx 1 #[.int .i64 a0_0,.int .i64 a0_1,.int .i64 a0_2,.slice A0_3 l0_3.length c0_3] 45 ?_;intro gb633 hg w3 hbox hb;have BK633:=aM (hbox);have GW633:=gW HB hg;have GE633:=gW HB hg;replace HB:=bS HB hb;clear hb hbox hg;obtain⟨hcz4_0,hcz4_1,hcz4_2,hcz4_3⟩:=cz4 BK633.out;obtain⟨hfz4_0,hfz4_1,hfz4_2,hfz4_3⟩:=fz4 BK633.out)|(refine g_C 118 ?_;refine gL (some 6) Tryz.func118 #[.int .i64 (l0_3.length:Int)] ?_;(with_reducible refine(impl_FullSet.calls A2.out).mono ?_);rintro e w' ⟨rfl,⟨nd,rfl⟩⟩;refine⟨_,rfl,?_⟩))
  go_ret
  exact⟨TE,TB⟩
def impl_Build_block.f (a0_0:Int)(l0_1:List Int)(a1_0:Int)(a1_1:Int)(a1_2:Int)(l1_3:List (S96))(a2:Int):Option (List Int):=(impl_SpanOf.f a1_1 a1_2 a2).bind fun bt637=>(if 0≤bt637.1 then (if bt637.1≤(wrap64 (bt637.1+bt637.2)) then (if (wrap64 (bt637.1+bt637.2))≤(l0_1.length:Int) then (some ((l0_1.take ((wrap64 (bt637.1+bt637.2)):Int).toNat).drop (bt637.1:Int).toNat)) else (none)) else (none)) else (none))
theorem impl_Build_block.calls {a0_0:Int}(P0_1_:Nat→Prop)(A0_1:Option Addr)(c0_1:Nat)(l0_1:List Int)(a1_0:Int)(a1_1:Int)(a1_2:Int)(A1_3:Option Addr)(c1_3:Nat)(l1_3:List (S96))(a2:Int)(r:List Int)(w:World)(hs0_1:Kd.V (Kd.int .u8) 5 w w.heap.size (fun k_=>P0_1_ k_) (.slice A0_1 l0_1.length c0_1) l0_1)(hr1_3:Kd.C k96 w A1_3 l1_3.length l1_3)(hc1_3:l1_3.length≤c1_3)(h:impl_Build_block.f a0_0 l0_1 a1_0 a1_1 a1_2 l1_3 a2=some r):
    Calls Tryz.prog 95 #[.agg #[.int .i64 a0_0,.slice A0_1 l0_1.length c0_1],.agg #[.int .i64 a1_0,.int .i64 a1_1,.int .i64 a1_2,.slice A1_3 l1_3.length c1_3],.int .i64 a2] w fun e w'=>∃v0_:Value,e=.returned (v0_)∧Kd.V (Kd.int .u8) 5 w' w.heap.size (fun k_=>(P0_1_ k_∨w.heap.size≤k_)) v0_ r∧Below w.heap.size w w':=by
  have hu47:=Tryz.underlying47
  have hu45:=Tryz.underlying45
  have HO0_1:=aM (show Kd.V (Kd.int .u8) 5 w w.heap.size (fun k_=>(P0_1_ k_∨w.heap.size≤k_)) (.slice A0_1 l0_1.length c0_1) l0_1 from Kd.V_mono hs0_1 (fun k_ hk=>.inl hk))
  have HR1_3:=aM hr1_3
  have HC1_3:=aM hc1_3
  clear hr1_3 hc1_3
  have HB:=aM (Below.refl w.heap.size w)
  have H:=h
  clear h
  unfold impl_Build_block.f at H
  replace H:=bE H
  obtain⟨⟨t637,t638⟩,A4,H⟩:=H
  dsimp only at H
  replace H:=ifN H
  obtain⟨c5,H⟩:=H
  have c5b0:=eq_true c5
  have c5b1:decide (0≤t637)=true:=decide_eq_true c5
  clear c5
  replace H:=ifN H
  obtain⟨c6,H⟩:=H
  have c6b0:=eq_true c6
  have c6b1:decide (t637≤(wrap64 (t637+t638)))=true:=decide_eq_true c6
  replace H:=ifN H
  obtain⟨c7,H⟩:=H
  have c7b0:=eq_true c7
  have c7b1:decide ((wrap64 (t637+t638))≤(l0_1.length:Int))=true:=decide_eq_true c7
  obtain⟨y639,hy639⟩:∃y_:List Int,y_=((l0_1.take ((wrap64 (t637+t638)):Int).toNat).drop (t637:Int).toNat):=⟨_,rfl⟩
  rw[← hy639] at H
  have Ny639:=aM hy639
  clear hy639
  obtain rfl:=o_I H
  go_enter Tryz.func95,Tryz.ntmps95
  go_wp2_with (first|(refine g_D 3 ?_;refine gBx 3 #[.int .i64 a0_0,.slice A0_1 l0_1.length c0_1] 47 ?_;intro gb635 hg w8 hbox hb;have BK635:=aM (hbox);have GW635:=gW HB hg;have GE635:=gW HB hg;replace HO0_1:=aM (Kd.V_below (Kd.V_elderB (by exact Zq26_0) gb635 (Nat.le_of_eq hg.symm)) hb);replace HB:=bS HB hb;clear hb hbox hg)|(refine g_D 4 ?_;refine gBx 4 #[.int .i64 a1_0,.int .i64 a1_1,.int .i64 a1_2,.slice A1_3 l1_3.length c1_3] 45 ?_;intro gb636 hg w9 hbox hb;have BK636:=aM (hbox);have GW636:=gW HB hg;have GE636:=gW HB hg;obtain⟨NB635_636,NB636_635⟩:=nB BK635 hg;replace HO0_1:=aM (Kd.V_below (Kd.V_elderB (by exact Zq26_0) gb636 (Nat.le_of_eq hg.symm)) hb);replace BK635:=mB BK635 hb;replace HB:=bS HB hb;clear hb hbox hg;obtain⟨hnb10,hnc10⟩:=oB NB636_635;obtain⟨hcz11_0,hcz11_1,hcz11_2,hcz11_3⟩:=cz4 BK636.out;obtain⟨hfz11_0,hfz11_1,hfz11_2,hfz11_3⟩:=fz4 BK636.out)|(refine g_C 108 ?_;refine gL (some 15) Tryz.func108 #[.int .i64 a1_1,.int .i64 a1_2,.int .i64 a2] ?_;(with_reducible refine(impl_SpanOf.calls A4.out).mono ?_);rintro e w12 ⟨rfl,hb⟩;refine⟨_,rfl,?_⟩;replace HO0_1:=aM (Kd.V_below (by exact Zq26_0) hb);replace BK635:=mB BK635 hb;replace BK636:=mB BK636 hb;replace HB:=bS HB hb;clear hb;obtain⟨hcz13_0,hcz13_1⟩:=cz2 BK635.out;obtain⟨hfz13_0,hfz13_1⟩:=fz2 BK635.out;have q14:((wrap64 (t637+t638)):Int)≤((l0_1.length:Int):Int):=DT;obtain⟨i014,hi014,_,hsz14,_⟩:=info_parts info5;have hroom14:l0_1.length≤c0_1:=(Kd.V_reads' HO0_1.out).2.1;have hC14:Kd.F (Kd.int .u8) _ _ A0_1 l0_1.length l0_1:=(Kd.V_at (base:=w.heap.size) HO0_1.out).2.2;have ql14:(t637:Int)≤((wrap64 (t637+t638)):Int):=DT;have q014:(0:Int)≤(t637:Int):=DT;have hcut14:=cut_mid (P:=Tryz.prog) 22 5 .i64 .i64 Tryz.underlying22 hi014 1 hsz14 A0_1 l0_1.length c0_1 t637 (wrap64 (t637+t638)) q014 ql14 q14 hroom14;have hr14:=Kd.F_mid (lo:=(t637:Int).toNat) (hi:=((wrap64 (t637+t638)):Int).toNat) (c:=c0_1) hC14 (by omega) (by omega) hroom14;obtain⟨A14,hA14⟩:∃A1,A1=(if c0_1=(t637:Int).toNat then A0_1 else (A0_1:Option Addr).map (·.add ((t637:Int).toNat * 1))):=⟨_,rfl⟩;obtain⟨c14,hc14⟩:∃c1,c1=c0_1 - (t637:Int).toNat:=⟨_,rfl⟩;have hy14:y639.length=((wrap64 (t637+t638)):Int).toNat - (t637:Int).toNat:=(by rw[Ny639.out,List.length_drop,List.length_take]<;>omega);rw[show((l0_1).take ((wrap64 (t637+t638)):Int).toNat).drop (t637:Int).toNat=y639 from Ny639.out.symm] at hr14;replace hr14:Kd.F (Kd.int .u8) _ _ A14 y639.length y639:=(by rw[hA14];exact hr14);rw[← hy14,← hA14,← hc14] at hcut14;have HO643:=aM (show Kd.V (Kd.int .u8) 5 _ w.heap.size _ (.slice A14 y639.length c14) y639 from Kd.V_mk (by rw[hy14,hc14];exact Nat.sub_le_sub_right (Nat.le_trans (by omega) hroom14) _) hr14);have HC643:=aM (show y639.length≤c14 from by rw[hy14,hc14];exact Nat.sub_le_sub_right (Nat.le_trans (by omega) hroom14) _);clear hr14 hC14 hroom14 hi014 hsz14 hc14;have KY14:=aM hy14;have KA14:=aM hA14;clear hy14 hA14;replace q14:=eq_true q14))
  go_ret
  exact⟨_,TE,by (with_reducible repeat (first|apply Kd.V_alloc|apply Kd.V_drewN|apply Kd.V_drew));exact Kd.V_mono HO643.out (fun _ hk=>hk.1.1),TB⟩
def impl_isPlace.f (a0:Int):Option (Bool):=(impl_within.f a0 0 39).bind fun t644=>(some t644)
theorem impl_isPlace.calls {a0:Int}{r:Bool}{w:World}(h:impl_isPlace.f a0=some r):
    Calls Tryz.prog 119 #[.int .i64 a0] w fun e w'=>e=.returned (.bool r)∧Drawn0 w w':=by
  have H:=h
  clear h
  unfold impl_isPlace.f at H
  replace H:=bE H
  obtain⟨t644,A2,H⟩:=H
  obtain rfl:=o_I H
  go_enter Tryz.func119,Tryz.ntmps119
  go_wp2_with (first|(refine g_C 106 ?_;refine gL (some 4) Tryz.func106 #[.int .i64 a0,.int .i64 0,.int .i64 39] ?_;(with_reducible refine(impl_within.calls A2.out).mono ?_);rintro e w' ⟨rfl,⟨nd,rfl⟩⟩;refine⟨_,rfl,?_⟩))
  go_ret
  exact⟨by first|rfl|(simp;done)|(simp [*];done),TD⟩
def impl_InSet.f (a0:Int)(a1:Int):Option (Bool):=(impl_SetOk.f a0).bind fun t645=>(if t645=true then ((impl_isPlace.f a1).bind fun t646=>(if t646=true then (if 0≤a1 then (some ((Go.bits .and .i64 (shr .i64 a0 a1) 1)==1)) else (none)) else (some false))) else (some false))
theorem impl_InSet.calls {a0:Int}{a1:Int}{r:Bool}{w:World}(h:impl_InSet.f a0 a1=some r):
    Calls Tryz.prog 96 #[.int .i64 a0,.int .i64 a1] w fun e w'=>e=.returned (.bool r)∧Drawn0 w w':=by
  have H:=h
  clear h
  unfold impl_InSet.f at H
  replace H:=bE H
  obtain⟨t645,A3,H⟩:=H
  by_cases c4:t645=true
  · subst c4
    replace H:=ifT H
    replace H:=bE H
    obtain⟨t646,A5,H⟩:=H
    by_cases c6:t646=true
    · subst c6
      replace H:=ifT H
      replace H:=ifN H
      obtain⟨c7,H⟩:=H
      have c7b0:=eq_true c7
      have c7b1:decide (0≤a1)=true:=decide_eq_true c7
      clear c7
      obtain⟨ji8,hji8⟩:∃j_:Int,(shr .i64 a0 a1)=j_:=⟨_,rfl⟩
      (first|rw[hji8] at H|simp only[hji8] at H|skip)
      (try rw[hji8] at A3)
      (try rw[hji8] at A5)
      have hji8_:(a0 / 2 ^ min a1.toNat 64)=ji8:=hji8
      have hji8z:a1≤64→(a0 / 2 ^ a1.toNat)=ji8:=shr_small hji8
      obtain rfl:=o_I H
      go_enter Tryz.func96,Tryz.ntmps96
      go_wp2_with (first|(refine g_C 93 ?_;refine gL (some 6) Tryz.func93 #[.int .i64 a0] ?_;(with_reducible refine(impl_SetOk.calls A3.out).mono ?_);rintro e w' ⟨rfl,⟨nd,rfl⟩⟩;refine⟨_,rfl,?_⟩)|(go_at_call 119;(with_reducible refine(impl_isPlace.calls A5.out).mono ?_);rintro e w' ⟨rfl,⟨nd,rfl⟩⟩))
      go_ret
      exact⟨by first|rfl|(simp;done)|(simp only[← hji8]<;>(first|rfl|simp))|(simp [*];done),TD⟩
    · replace c6:=b_F c6
      subst c6
      replace H:=ifF H
      obtain rfl:=o_I H
      go_enter Tryz.func96,Tryz.ntmps96
      go_wp2_with (first|(refine g_C 93 ?_;refine gL (some 6) Tryz.func93 #[.int .i64 a0] ?_;(with_reducible refine(impl_SetOk.calls A3.out).mono ?_);rintro e w' ⟨rfl,⟨nd,rfl⟩⟩;refine⟨_,rfl,?_⟩)|(go_at_call 119;(with_reducible refine(impl_isPlace.calls A5.out).mono ?_);rintro e w' ⟨rfl,⟨nd,rfl⟩⟩))
      go_ret
      exact⟨by first|rfl|(simp;done)|(simp [*];done),TD⟩
  · replace c4:=b_F c4
    subst c4
    replace H:=ifF H
    obtain rfl:=o_I H
    go_enter Tryz.func96,Tryz.ntmps96
    go_wp2_with (first|(refine g_C 93 ?_;refine gL (some 6) Tryz.func93 #[.int .i64 a0] ?_;(with_reducible refine(impl_SetOk.calls A3.out).mono ?_);rintro e w' ⟨rfl,⟨nd,rfl⟩⟩;refine⟨_,rfl,?_⟩))
    go_ret
    exact⟨by first|rfl|(simp;done)|(simp [*];done),TD⟩
def impl_SumOf.l0 :Nat→List Int→Int→List Int→Int→Int→Option (Int×Int)
  |0,_,_,_,_,_=>none
  |k+1,x0,x3,x10,x11,x12=>if x12<x11 then (if 0≤x12 then (if x12<(x10.length:Int) then (impl_SumOf.l0 k x0 (Go.bits .or .i64 (wrap64 (x3 * 256)) (wrap64 (rd x10 x12))) x10 x11 (wrap64 (x12+1))) else (none)) else (none)) else ((impl_WeakOf.f k x0).bind fun t649=>(some (t649,x3)))
def impl_SumOf.f (k:Nat)(l0:List Int):Option (Int×Int):=if (l0.length:Int)>6 then (some (0,0)) else (impl_SumOf.l0 k l0 1 l0 (l0.length:Int) 0)
theorem impl_SumOf.mono_l :∀k,(∀y0 y1 y2 y3 y4,LeO (impl_SumOf.l0 k y0 y1 y2 y3 y4) (impl_SumOf.l0 (k+1) y0 y1 y2 y3 y4))
  |0=>fun _ _ _ _ _ r h=>by simp [impl_SumOf.l0] at h
  | k+1=>by
    have m0_:=@impl_WeakOf.mono
    have ih0:=impl_SumOf.mono_l k
    · intro y0 y1 y2 y3 y4
      unfold impl_SumOf.l0
      exact LM
theorem impl_SumOf.mono :∀a0 k,LeO (impl_SumOf.f k a0) (impl_SumOf.f (k+1) a0):=by
  intro a0 k;have m0_:=@impl_WeakOf.mono;have ih0:=impl_SumOf.mono_l k;unfold impl_SumOf.f;exact LM
theorem impl_SumOf.calls {k:Nat}{A0:Option Addr}{c0:Nat}{l0:List Int}{r1:Int}{r2:Int}{w:World}(hr0:Kd.C (Kd.int .u8) w A0 l0.length l0)(hc0:l0.length≤c0)(h:impl_SumOf.f k l0=some (r1,r2)):
    Calls Tryz.prog 97 #[.slice A0 l0.length c0] w fun e w'=>e=.returned (.agg #[.int .i64 r1,.int .i64 r2])∧Below w.heap.size w w':=by
  have hu96:=Tryz.underlying96
  have HR0:=aM hr0
  have HC0:=aM hc0
  clear hr0 hc0
  have HB:=aM (Below.refl w.heap.size w)
  have H:=h
  clear h
  unfold impl_SumOf.f at H
  by_cases c2:(l0.length:Int)>6
  · rw[if_pos c2] at H
    have c2b0:decide (6<(l0.length:Int))=true:=decide_eq_true c2
    have c2b1:decide (6<l0.length)=true:=decide_eq_true (by omega)
    clear c2
    simp only[Option.some.injEq,Prod.mk.injEq] at H
    obtain⟨rfl,rfl⟩:=H
    go_enter Tryz.func97,Tryz.ntmps97
    go_wp2_with (first|(refine g_D 2 ?_;refine gBx 2 #[.int .i64 0,.int .i64 0] 96 ?_;intro gb647 hg w3 hbox hb;have BK647:=aM (hbox);have GW647:=gW HB hg;have GE647:=gW HB hg;replace HB:=bS HB hb;clear hb hbox hg;obtain⟨hcz4_0,hcz4_1⟩:=cz2 BK647.out;obtain⟨hfz4_0,hfz4_1⟩:=fz2 BK647.out))
    refine bodyPost_ret (results_cell_row rfl _ _ gb647 96 #[.int .i64 0,.int .i64 0] (0,0) _ rfl (blk_put (blk_put (cs:=#[.int .i64 0,.int .i64 0]) (TZ BK647) 0 _ rfl) 1 _ rfl) Tryz.underlying96 rfl (by kernel_rfl)) rfl ?_
    exact⟨TE,TB⟩
  · rw[if_neg c2] at H
    have c2b0:decide (6<(l0.length:Int))=false:=decide_eq_false c2
    have c2b1:decide (6<l0.length)=false:=decide_eq_false (by omega)
    clear c2
    have H':=aM H
    clear H
    go_enter Tryz.func97,Tryz.ntmps97
    go_wp2_with (first|(refine g_D 2 ?_;refine gBx 2 #[.int .i64 0,.int .i64 0] 96 ?_;intro gb647 hg w5 hbox hb;have BK647:=aM (hbox);have GW647:=gW HB hg;have GE647:=gW HB hg;replace HB:=bS HB hb;clear hb hbox hg))
    go_loopg [3,12] k (fun kq v3 v12 w'=>∃(x3_1:Int) (x12_1:Int),v3=.int .i64 x3_1∧v12=.int .i64 x12_1∧Aside0 (impl_SumOf.l0 kq l0 x3_1 l0 (l0.length:Int) x12_1=some (r1,r2))∧Aside0 (kq≤k)∧Aside0 (w'.heap[gb647]?=some (.cells #[.int .i64 0,.int .i64 0] 96 (0,0)))∧Aside0 (Below w.heap.size w w'))
    case atStart=>exact⟨(1),(0),TF,TF,H',⟨Nat.le_refl _⟩,⟨TK⟩,⟨TB⟩⟩
    case round=>
      clear H'
      try clear c2
      try clear c2b0
      try clear c2b1
      try clear p2
      try clear hcz4_0
      try clear hcz4_1
      try clear hfz4_0
      try clear hfz4_1
      obtain⟨x3_1,x12_1,rfl,rfl,HA,HK1,BK647,HB⟩:=hrel
      cases gk with
      |zero=>exact absurd HA.out (by simp [impl_SumOf.l0])
      | succ k1=>
        have H:=HA.out
        clear HA
        simp only[impl_SumOf.l0] at H
        by_cases c6:x12_1<(l0.length:Int)
        · rw[if_pos c6] at H
          have c6b0:decide (x12_1<(l0.length:Int))=true:=decide_eq_true c6
          clear c6
          replace H:=ifN H
          obtain⟨c7,H⟩:=H
          have c7b0:decide (0≤x12_1)=true:=decide_eq_true c7
          clear c7
          replace H:=ifN H
          obtain⟨c8,H⟩:=H
          have c8b0:decide (x12_1<(l0.length:Int))=true:=decide_eq_true c8
          clear c8
          have H':=aM H
          clear H
          have p648:0≤(x12_1:Int):=DT
          have q648:x12_1<(l0.length:Int):=DT
          obtain⟨ad648,e648,hx648_0⟩:=Kd.at_int HR0.out x12_1 p648 q648
          cases e648
          replace hx648_0:=(HB.out.cell (World.block_lt_of_cell? w _ hx648_0)).trans hx648_0
          replace p648:=eq_true p648
          replace q648:=eq_true q648
          go_wp2
          go_roundg k1
          case measure=>have:=HK1.out;omega
          case rel=>exact⟨(Go.bits .or .i64 (wrap64 (x3_1 * 256)) (wrap64 (rd l0 x12_1))),(wrap64 (x12_1+1)),TF,TF,H',⟨by have:=HK1.out;omega⟩,⟨TK⟩,⟨TB⟩⟩
        · rw[if_neg c6] at H
          have c6b0:decide (x12_1<(l0.length:Int))=false:=decide_eq_false c6
          clear c6
          replace H:=bE H
          obtain⟨t649,A9,H⟩:=H
          simp only[Option.some.injEq,Prod.mk.injEq] at H
          obtain⟨rfl,rfl⟩:=H
          go_wp2_with (first|(refine g_C 117 ?_;refine gL (some 23) Tryz.func117 #[.slice A0 l0.length c0] ?_;(with_reducible refine(impl_WeakOf.calls ?side1 ?side2 A9.out).mono ?_);(case side1=>have X_:=(Kd.C_below HR0.out HB.out);exact TC);(case side2=>exact HC0.out);rintro e w' ⟨rfl,⟨nd,rfl⟩⟩;refine⟨_,rfl,?_⟩;(try (rw[drewN_self wr];generalize hq_:World.drewN wr _=wr;have n0_:Aside0 (wr.heap[gb647]?=some (.cells #[.int .i64 0,.int .i64 0] 96 (0,0))):=⟨by rw[← hq_];exact TK⟩;have n1_:Aside0 (Below w.heap.size w wr):=⟨by rw[← hq_];exact TB⟩;clear BK647 HB hq_;have BK647:=n0_;have HB:=n1_;clear n0_ n1_));obtain⟨hcz10_0,hcz10_1⟩:=cz2 BK647.out;obtain⟨hfz10_0,hfz10_1⟩:=fz2 BK647.out))
          refine bodyPost_ret (results_cell_row rfl _ _ gb647 96 #[.int .i64 t649,.int .i64 x3_1] (0,0) _ rfl (blk_put (blk_put (cs:=#[.int .i64 0,.int .i64 0]) (TZ BK647) 0 _ rfl) 1 _ rfl) Tryz.underlying96 rfl (by kernel_rfl)) rfl ?_
          exact⟨TE,TB⟩
def impl_BuildOk_1.f (a0:Int):Option (Bool):=some (a0 != 0)
theorem impl_BuildOk_1.calls {a0:Int}{r:Bool}{w:World}(h:impl_BuildOk_1.f a0=some r):
    Calls Tryz.prog 99 #[.int .u8 a0] w fun e w'=>e=.returned (.bool r)∧Drawn0 w w':=by
  have H:=h
  clear h
  unfold impl_BuildOk_1.f at H
  obtain rfl:=o_I H
  go_enter Tryz.func99,Tryz.ntmps99
  go_wp2
  go_ret
  exact⟨by first|rfl|(simp;done)|(simp [*];done),TD⟩
def slices_IndexFunc_byte_byte.l0 :Nat→List Int→Int→Int→Option (Int)
  |0,_,_,_=>none
  |k+1,x0,x7,x8=>if x8<x7 then (if 0≤x8 then (if x8<(x0.length:Int) then ((impl_BuildOk_1.f (rd x0 x8)).bind fun t651=>(if t651=true then (some x8) else (slices_IndexFunc_byte_byte.l0 k x0 x7 (wrap64 (x8+1))))) else (none)) else (none)) else (some (-1))
def slices_IndexFunc_byte_byte.f (k:Nat)(l0:List Int):Option (Int):=slices_IndexFunc_byte_byte.l0 k l0 (l0.length:Int) 0
theorem slices_IndexFunc_byte_byte.mono_l :∀k,(∀y0 y1 y2,LeO (slices_IndexFunc_byte_byte.l0 k y0 y1 y2) (slices_IndexFunc_byte_byte.l0 (k+1) y0 y1 y2))
  |0=>fun _ _ _ r h=>by simp [slices_IndexFunc_byte_byte.l0] at h
  | k+1=>by
    have ih0:=slices_IndexFunc_byte_byte.mono_l k
    · intro y0 y1 y2
      unfold slices_IndexFunc_byte_byte.l0
      exact LM
theorem slices_IndexFunc_byte_byte.mono :∀a0 k,LeO (slices_IndexFunc_byte_byte.f k a0) (slices_IndexFunc_byte_byte.f (k+1) a0):=by
  intro a0 k;have ih0:=slices_IndexFunc_byte_byte.mono_l k;unfold slices_IndexFunc_byte_byte.f;exact LM
theorem slices_IndexFunc_byte_byte.calls {k:Nat}{A0:Option Addr}{c0:Nat}{l0:List Int}{r:Int}{w:World}(hr0:Kd.C (Kd.int .u8) w A0 l0.length l0)(hc0:l0.length≤c0)(h:slices_IndexFunc_byte_byte.f k l0=some r):
    Calls Tryz.prog 120 #[.slice A0 l0.length c0,.func (.func 99) #[] #[]] w fun e w'=>e=.returned (.int .i64 r)∧Drawn0 w w':=by
  have HR0:=aM hr0
  have HC0:=aM hc0
  clear hr0 hc0
  have H:=h
  clear h
  unfold slices_IndexFunc_byte_byte.f at H
  have H':=aM H
  clear H
  go_enter Tryz.func120,Tryz.ntmps120
  go_wp2
  go_loopg [8] k (fun kq v8 w'=>∃(x8_1:Int),v8=.int .i64 x8_1∧Aside0 (slices_IndexFunc_byte_byte.l0 kq l0 (l0.length:Int) x8_1=some r)∧Aside0 (kq≤k)∧Drawn0 w w')
  case atStart=>exact⟨(0),TF,H',⟨Nat.le_refl _⟩,TD⟩
  case round=>
    clear H'
    try clear c1
    try clear p2
    obtain⟨x8_1,rfl,HA,HK1,⟨m1,rfl⟩⟩:=hrel
    cases gk with
    |zero=>exact absurd HA.out (by simp [slices_IndexFunc_byte_byte.l0])
    | succ k1=>
      have H:=HA.out
      clear HA
      simp only[slices_IndexFunc_byte_byte.l0] at H
      by_cases c3:x8_1<(l0.length:Int)
      · rw[if_pos c3] at H
        have c3b0:decide (x8_1<(l0.length:Int))=true:=decide_eq_true c3
        clear c3
        replace H:=ifN H
        obtain⟨c4,H⟩:=H
        have c4b0:decide (0≤x8_1)=true:=decide_eq_true c4
        clear c4
        replace H:=ifN H
        obtain⟨c5,H⟩:=H
        have c5b0:decide (x8_1<(l0.length:Int))=true:=decide_eq_true c5
        clear c5
        replace H:=bE H
        obtain⟨t651,A6,H⟩:=H
        have p650:0≤(x8_1:Int):=DT
        have q650:x8_1<(l0.length:Int):=DT
        obtain⟨ad650,e650,hx650_0⟩:=Kd.at_int HR0.out x8_1 p650 q650
        cases e650
        replace p650:=eq_true p650
        replace q650:=eq_true q650
        by_cases c7:t651=true
        · subst c7
          replace H:=ifT H
          obtain rfl:=o_I H
          go_wp2_with (first|(go_at_call 99;(with_reducible refine(impl_BuildOk_1.calls A6.out).mono ?_);rintro e w' ⟨rfl,⟨nd,rfl⟩⟩))
          go_ret
          exact⟨by first|rfl|(simp;done)|(simp [*];done),TD⟩
        · replace c7:=b_F c7
          subst c7
          replace H:=ifF H
          have H':=aM H
          clear H
          go_wp2_with (first|(go_at_call 99;(with_reducible refine(impl_BuildOk_1.calls A6.out).mono ?_);rintro e w' ⟨rfl,⟨nd,rfl⟩⟩))
          go_roundg k1
          case measure=>have:=HK1.out;omega
          case rel=>exact⟨(wrap64 (x8_1+1)),TF,H',⟨by have:=HK1.out;omega⟩,TD⟩
      · rw[if_neg c3] at H
        have c3b0:decide (x8_1<(l0.length:Int))=false:=decide_eq_false c3
        clear c3
        obtain rfl:=o_I H
        go_wp2
        go_ret
        exact⟨by first|rfl|(simp;done)|(simp [*];done),TD⟩
def slices_ContainsFunc_byte_byte.f (k:Nat)(l0:List Int):Option (Bool):=(slices_IndexFunc_byte_byte.f k l0).bind fun t652=>(some (decide (t652≥0)))
theorem slices_ContainsFunc_byte_byte.mono :∀a0 k,LeO (slices_ContainsFunc_byte_byte.f k a0) (slices_ContainsFunc_byte_byte.f (k+1) a0):=by
  intro a0 k;have m0_:=@slices_IndexFunc_byte_byte.mono;unfold slices_ContainsFunc_byte_byte.f;exact LM
theorem slices_ContainsFunc_byte_byte.calls {k:Nat}{A0:Option Addr}{c0:Nat}{l0:List Int}{r:Bool}{w:World}(hr0:Kd.C (Kd.int .u8) w A0 l0.length l0)(hc0:l0.length≤c0)(h:slices_ContainsFunc_byte_byte.f k l0=some r):
  Calls Tryz.prog 98 #[.slice A0 l0.length c0,.func (.func 99) #[] #[]] w fun e w'=>e=.returned (.bool r)∧Drawn0 w w':=by
 have HR0:=aM hr0;have HC0:=aM hc0;clear hr0 hc0;have H:=h;clear h;unfold slices_ContainsFunc_byte_byte.f at H;replace H:=bE H;obtain⟨t652,A3,H⟩:=H;obtain rfl:=o_I H;go_enter Tryz.func98,Tryz.ntmps98;go_wp2_with (first|(refine g_C 120 ?_;refine gL (some 7) Tryz.func120 #[.slice A0 l0.length c0,.func (.func 99) #[] #[]] ?_;(with_reducible refine(slices_IndexFunc_byte_byte.calls ?side1 ?side2 A3.out).mono ?_);(case side1=>have X_:=HR0.out;exact TC);(case side2=>exact HC0.out);rintro e w' ⟨rfl,⟨nd,rfl⟩⟩;refine⟨_,rfl,?_⟩))
 go_ret
 exact⟨by first|rfl|(simp;done)|(simp [*];done),TD⟩
theorem Zq25_0 {p:Prop}(h:p:=by repeat (first|exact(Kd.C_below aj.out TB)|(with_reducible refine Kd.C_alloc ?_ _)|(with_reducible refine Kd.C_drewN ?_ _)|(with_reducible refine Kd.C_drew ?_))):p:=h
theorem Zq25_1 {p:Prop}(h:p:=by have X_:=(Kd.R_reads' HOq1.out).2.2;exact TC):p:=h
mutual
def impl_ManOk.j0 :Nat→Bool→Int→Int→Int→List (S96)→Option (Bool)
  |0,_,_,_,_,_=>none
  |k+1,x33,x618000,x618001,x618002,x618003=>if x33=true then (some false) else (impl_ManOk.l0 k x618003 (x618003.length:Int) 0 x618000 x618001 x618002 x618003)
def impl_ManOk.l0 :Nat→List (S96)→Int→Int→Int→Int→Int→List (S96)→Option (Bool)
  |0,_,_,_,_,_,_,_=>none
  |k+1,x35,x36,x37,x618000,x618001,x618002,x618003=>if x37<x36 then (if 0≤x37 then (if x37<(x35.length:Int) then ((impl_BytesOf.f k ((rd_T96 x35 x37).f1)).bind fun bt624=>((impl_SpanOf.f x618001 x618002 x37).bind fun bt628=>(if bt624.2=true then (if (bt624.1.length:Int)=bt628.2 then ((impl_WeakOf.f k bt624.1).bind fun t630=>(if t630=((rd_T96 x35 x37).f0) then (impl_ManOk.l0 k x35 x36 (wrap64 (x37+1)) x618000 x618001 x618002 x618003) else (some false))) else (some false)) else (some false)))) else (none)) else (none)) else (some true)
end
def impl_ManOk.f (k:Nat)(a0_0:Int)(a0_1:Int)(a0_2:Int)(l0_3:List (S96)):Option (Bool):=(impl_isZeroMan.f a0_0 a0_1 a0_2 l0_3).bind fun t618=>(if t618=true then (some true) else ((impl_within.f a0_0 1 1000000).bind fun t619=>(if t619=true then ((impl_SizeOk.f a0_1 a0_2).bind fun t620=>(if t620=true then ((impl_Blocks.f a0_1 a0_2).bind fun t621=>(impl_ManOk.j0 k ((l0_3.length:Int) != t621) a0_0 a0_1 a0_2 l0_3)) else (impl_ManOk.j0 k true a0_0 a0_1 a0_2 l0_3))) else (impl_ManOk.j0 k true a0_0 a0_1 a0_2 l0_3))))
theorem impl_ManOk.mono_l :∀k,(∀y0 y1 y2 y3 y4,LeO (impl_ManOk.j0 k y0 y1 y2 y3 y4) (impl_ManOk.j0 (k+1) y0 y1 y2 y3 y4))∧(∀y0 y1 y2 y3 y4 y5 y6,LeO (impl_ManOk.l0 k y0 y1 y2 y3 y4 y5 y6) (impl_ManOk.l0 (k+1) y0 y1 y2 y3 y4 y5 y6))
  |0=>⟨fun _ _ _ _ _ r h=>by simp [impl_ManOk.j0] at h,fun _ _ _ _ _ _ _ r h=>by simp [impl_ManOk.l0] at h⟩
  | k+1=>by
    have m0_:=@impl_BytesOf.mono
    have m1_:=@impl_WeakOf.mono
    obtain⟨ih0,ih1⟩:=impl_ManOk.mono_l k
    refine⟨?_,?_⟩
    · intro y0 y1 y2 y3 y4
      unfold impl_ManOk.j0
      exact LM
    · intro y0 y1 y2 y3 y4 y5 y6
      unfold impl_ManOk.l0
      exact LM
theorem impl_ManOk.mono :∀a0 a1 a2 a3 k,LeO (impl_ManOk.f k a0 a1 a2 a3) (impl_ManOk.f (k+1) a0 a1 a2 a3):=by
  intro a0 a1 a2 a3 k;have m0_:=@impl_BytesOf.mono;have m1_:=@impl_WeakOf.mono;obtain⟨ih0,ih1⟩:=impl_ManOk.mono_l k;unfold impl_ManOk.f;exact LM
theorem impl_ManOk.calls {k:Nat}{ae:Int}{ad:Int}{ac:Int}{ak:Option Addr}{ah:Nat}{ab:List (S96)}{r:Bool}{w:World}(aL:Kd.C k96 w ak ab.length ab)(aN:ab.length≤ah)(h:impl_ManOk.f k ae ad ac ab=some r):
  Calls Tryz.prog 92 #[.agg #[.int .i64 ae,.int .i64 ad,.int .i64 ac,.slice ak ab.length ah]] w fun e w'=>e=.returned (.bool r)∧Below w.heap.size w w':=by
 have huq1:=Tryz.underlying45;have huq2:=Tryz.underlying96;have aj:=aM aL;have al:=aM aN;clear aL aN;have HB:=aM (Below.refl w.heap.size w);have H:=h;clear h;unfold impl_ManOk.f at H;replace H:=bE H;obtain⟨t618,Aq1,H⟩:=H;go_enter Tryz.func92,Tryz.ntmps92;go_wp2_with (first|(refine g_D 1 ?_;(try (refine gate_guard (by rfl) ?_;dsimp only));refine gBx 1 #[.int .i64 ae,.int .i64 ad,.int .i64 ac,.slice ak ab.length ah] 45 ?_;intro aF hg wq1 hbox hb;have aa:=aM (hbox);have GWq1:=gW HB hg;have GEq1:=gW HB hg;replace HB:=bS HB hb;clear hb hbox hg;obtain⟨an,am,ao,ap⟩:=cz4 aa.out;obtain⟨aC,aw,aq,az⟩:=fz4 aa.out)|(refine g_C 115 ?_;refine g_D 10 ?_;generalize hG_:wpList _ _ _ _ _ _=G_))
 repeat (go_quiet (first|(refine g_D 1 ?_;(try (refine gate_guard (by rfl) ?_;dsimp only));refine gBx 1 #[.int .i64 ae,.int .i64 ad,.int .i64 ac,.slice ak ab.length ah] 45 ?_;intro aF hg wq1 hbox hb;have aa:=aM (hbox);have GWq1:=gW HB hg;have GEq1:=gW HB hg;replace HB:=bS HB hb;clear hb hbox hg;obtain⟨an,am,ao,ap⟩:=cz4 aa.out;obtain⟨aC,aw,aq,az⟩:=fz4 aa.out)|(refine g_C 115 ?_;refine g_D 10 ?_;generalize hG_:wpList _ _ _ _ _ _=G_));try go_wp2_with (first|(refine g_D 1 ?_;(try (refine gate_guard (by rfl) ?_;dsimp only));refine gBx 1 #[.int .i64 ae,.int .i64 ad,.int .i64 ac,.slice ak ab.length ah] 45 ?_;intro aF hg wq1 hbox hb;have aa:=aM (hbox);have GWq1:=gW HB hg;have GEq1:=gW HB hg;replace HB:=bS HB hb;clear hb hbox hg;obtain⟨an,am,ao,ap⟩:=cz4 aa.out;obtain⟨aC,aw,aq,az⟩:=fz4 aa.out)|(refine g_C 115 ?_;refine g_D 10 ?_;generalize hG_:wpList _ _ _ _ _ _=G_)))
 subst hG_
 by_cases cq1:t618=true
 ·subst cq1;replace H:=ifT H;obtain rfl:=o_I H;go_wp2_with (first|(go_at_call 115;(with_reducible refine(impl_isZeroMan.calls ?side1 ?side2 Aq1.out).mono ?_);(case side1=>exact Zq25_0);(case side2=>exact al.out);rintro e wq2 ⟨rfl,hb⟩;replace aa:=mB aa hb;replace HB:=bS HB hb;clear hb))
  repeat (go_quiet (first|(go_at_call 115;(with_reducible refine(impl_isZeroMan.calls ?side1 ?side2 Aq1.out).mono ?_);(case side1=>exact Zq25_0);(case side2=>exact al.out);rintro e wq2 ⟨rfl,hb⟩;replace aa:=mB aa hb;replace HB:=bS HB hb;clear hb));try go_wp2_with (first|(go_at_call 115;(with_reducible refine(impl_isZeroMan.calls ?side1 ?side2 Aq1.out).mono ?_);(case side1=>exact Zq25_0);(case side2=>exact al.out);rintro e wq2 ⟨rfl,hb⟩;replace aa:=mB aa hb;replace HB:=bS HB hb;clear hb)))
  go_ret
  exact⟨TE,TB⟩
 ·replace cq1:=b_F cq1;subst cq1;replace H:=ifF H;have aI:=aM H;clear H;go_upto_region 3 with (first|(go_at_call 115;(with_reducible refine(impl_isZeroMan.calls ?side1 ?side2 Aq1.out).mono ?_);(case side1=>exact Zq25_0);(case side2=>exact al.out);rintro e wq2 ⟨rfl,hb⟩;replace aa:=mB aa hb;replace HB:=bS HB hb;clear hb))
  repeat (go_quiet (first|(go_at_call 115;(with_reducible refine(impl_isZeroMan.calls ?side1 ?side2 Aq1.out).mono ?_);(case side1=>exact Zq25_0);(case side2=>exact al.out);rintro e wq2 ⟨rfl,hb⟩;replace aa:=mB aa hb;replace HB:=bS HB hb;clear hb));go_upto_region 3 with (first|(go_at_call 115;(with_reducible refine(impl_isZeroMan.calls ?side1 ?side2 Aq1.out).mono ?_);(case side1=>exact Zq25_0);(case side2=>exact al.out);rintro e wq2 ⟨rfl,hb⟩;replace aa:=mB aa hb;replace HB:=bS HB hb;clear hb)))
  (try simp only[NP])
  go_cut [33] (fun vq1 wc=>∃(kq:Nat) (xq1:Bool),vq1=.bool xq1∧Aside0 (impl_ManOk.j0 kq xq1 ae ad ac ab=some r)∧Aside0 (kq≤k)∧Aside0 (wc.heap[aF]?=some (.cells #[.int .i64 ae,.int .i64 ad,.int .i64 ac,(.slice ak ab.length ah)] 45 (0,0)))∧Aside0 (Below w.heap.size w wc))
  case first=>
   have H:=aI.out;clear aI;replace H:=bE H;obtain⟨t619,Aq2,H⟩:=H
   by_cases cq2:t619=true
   ·subst cq2;replace H:=ifT H;replace H:=bE H;obtain⟨t620,Aq3,H⟩:=H
    by_cases cq3:t620=true
    ·subst cq3;replace H:=ifT H;replace H:=bE H;obtain⟨aH,Aq4,H⟩:=H;have H':=aM H;clear H;obtain⟨aA,ax,au,ay⟩:=cz4 aa.out;obtain⟨aB,ar,av,aD⟩:=fz4 aa.out;go_wp2_with (first|(go_at_call 106;(with_reducible refine(impl_within.calls Aq2.out).mono ?_);rintro e w' ⟨rfl,⟨nd,rfl⟩⟩;(try first|exact⟨rfl,_,World.drewN_drewN _ _ _⟩|exact⟨rfl,_,Eq.trans (World.drewN_drewN _ _ _) (congrArg (World.drewN _) (Nat.add_assoc _ _ _))⟩))|(go_at_call 67;(with_reducible refine(impl_SizeOk.calls Aq3.out).mono ?_);rintro e w' ⟨rfl,⟨nd,rfl⟩⟩;(try first|exact⟨rfl,_,World.drewN_drewN _ _ _⟩|exact⟨rfl,_,Eq.trans (World.drewN_drewN _ _ _) (congrArg (World.drewN _) (Nat.add_assoc _ _ _))⟩))|(go_at_call 68;(with_reducible refine(impl_Blocks.calls Aq4.out).mono ?_);rintro e w' ⟨rfl,⟨nd,rfl⟩⟩;(try first|exact⟨rfl,_,World.drewN_drewN _ _ _⟩|exact⟨rfl,_,Eq.trans (World.drewN_drewN _ _ _) (congrArg (World.drewN _) (Nat.add_assoc _ _ _))⟩)))
     repeat (go_quiet (first|(go_at_call 106;(with_reducible refine(impl_within.calls Aq2.out).mono ?_);rintro e w' ⟨rfl,⟨nd,rfl⟩⟩;(try first|exact⟨rfl,_,World.drewN_drewN _ _ _⟩|exact⟨rfl,_,Eq.trans (World.drewN_drewN _ _ _) (congrArg (World.drewN _) (Nat.add_assoc _ _ _))⟩))|(go_at_call 67;(with_reducible refine(impl_SizeOk.calls Aq3.out).mono ?_);rintro e w' ⟨rfl,⟨nd,rfl⟩⟩;(try first|exact⟨rfl,_,World.drewN_drewN _ _ _⟩|exact⟨rfl,_,Eq.trans (World.drewN_drewN _ _ _) (congrArg (World.drewN _) (Nat.add_assoc _ _ _))⟩))|(go_at_call 68;(with_reducible refine(impl_Blocks.calls Aq4.out).mono ?_);rintro e w' ⟨rfl,⟨nd,rfl⟩⟩;(try first|exact⟨rfl,_,World.drewN_drewN _ _ _⟩|exact⟨rfl,_,Eq.trans (World.drewN_drewN _ _ _) (congrArg (World.drewN _) (Nat.add_assoc _ _ _))⟩)));try go_wp2_with (first|(go_at_call 106;(with_reducible refine(impl_within.calls Aq2.out).mono ?_);rintro e w' ⟨rfl,⟨nd,rfl⟩⟩;(try first|exact⟨rfl,_,World.drewN_drewN _ _ _⟩|exact⟨rfl,_,Eq.trans (World.drewN_drewN _ _ _) (congrArg (World.drewN _) (Nat.add_assoc _ _ _))⟩))|(go_at_call 67;(with_reducible refine(impl_SizeOk.calls Aq3.out).mono ?_);rintro e w' ⟨rfl,⟨nd,rfl⟩⟩;(try first|exact⟨rfl,_,World.drewN_drewN _ _ _⟩|exact⟨rfl,_,Eq.trans (World.drewN_drewN _ _ _) (congrArg (World.drewN _) (Nat.add_assoc _ _ _))⟩))|(go_at_call 68;(with_reducible refine(impl_Blocks.calls Aq4.out).mono ?_);rintro e w' ⟨rfl,⟨nd,rfl⟩⟩;(try first|exact⟨rfl,_,World.drewN_drewN _ _ _⟩|exact⟨rfl,_,Eq.trans (World.drewN_drewN _ _ _) (congrArg (World.drewN _) (Nat.add_assoc _ _ _))⟩))))
     go_meet
     case rel=>exact⟨_,(((ab.length:Int) != aH)),TF,H',⟨by first|omega|exact Nat.le_refl _⟩,⟨TK⟩,⟨TB⟩⟩
    ·replace cq3:=b_F cq3;subst cq3;replace H:=ifF H;have H':=aM H;clear H;obtain⟨aA,ax,au,ay⟩:=cz4 aa.out;obtain⟨aB,ar,av,aD⟩:=fz4 aa.out;go_wp2_with (first|(go_at_call 106;(with_reducible refine(impl_within.calls Aq2.out).mono ?_);rintro e w' ⟨rfl,⟨nd,rfl⟩⟩;(try first|exact⟨rfl,_,World.drewN_drewN _ _ _⟩|exact⟨rfl,_,Eq.trans (World.drewN_drewN _ _ _) (congrArg (World.drewN _) (Nat.add_assoc _ _ _))⟩))|(go_at_call 67;(with_reducible refine(impl_SizeOk.calls Aq3.out).mono ?_);rintro e w' ⟨rfl,⟨nd,rfl⟩⟩;(try first|exact⟨rfl,_,World.drewN_drewN _ _ _⟩|exact⟨rfl,_,Eq.trans (World.drewN_drewN _ _ _) (congrArg (World.drewN _) (Nat.add_assoc _ _ _))⟩)))
     repeat (go_quiet (first|(go_at_call 106;(with_reducible refine(impl_within.calls Aq2.out).mono ?_);rintro e w' ⟨rfl,⟨nd,rfl⟩⟩;(try first|exact⟨rfl,_,World.drewN_drewN _ _ _⟩|exact⟨rfl,_,Eq.trans (World.drewN_drewN _ _ _) (congrArg (World.drewN _) (Nat.add_assoc _ _ _))⟩))|(go_at_call 67;(with_reducible refine(impl_SizeOk.calls Aq3.out).mono ?_);rintro e w' ⟨rfl,⟨nd,rfl⟩⟩;(try first|exact⟨rfl,_,World.drewN_drewN _ _ _⟩|exact⟨rfl,_,Eq.trans (World.drewN_drewN _ _ _) (congrArg (World.drewN _) (Nat.add_assoc _ _ _))⟩)));try go_wp2_with (first|(go_at_call 106;(with_reducible refine(impl_within.calls Aq2.out).mono ?_);rintro e w' ⟨rfl,⟨nd,rfl⟩⟩;(try first|exact⟨rfl,_,World.drewN_drewN _ _ _⟩|exact⟨rfl,_,Eq.trans (World.drewN_drewN _ _ _) (congrArg (World.drewN _) (Nat.add_assoc _ _ _))⟩))|(go_at_call 67;(with_reducible refine(impl_SizeOk.calls Aq3.out).mono ?_);rintro e w' ⟨rfl,⟨nd,rfl⟩⟩;(try first|exact⟨rfl,_,World.drewN_drewN _ _ _⟩|exact⟨rfl,_,Eq.trans (World.drewN_drewN _ _ _) (congrArg (World.drewN _) (Nat.add_assoc _ _ _))⟩))))
     go_meet
     case rel=>exact⟨_,(true),TF,H',⟨by first|omega|exact Nat.le_refl _⟩,⟨TK⟩,⟨TB⟩⟩
   ·replace cq2:=b_F cq2;subst cq2;replace H:=ifF H;have H':=aM H;clear H;obtain⟨aA,ax,au,ay⟩:=cz4 aa.out;obtain⟨aB,ar,av,aD⟩:=fz4 aa.out;go_wp2_with (first|(go_at_call 106;(with_reducible refine(impl_within.calls Aq2.out).mono ?_);rintro e w' ⟨rfl,⟨nd,rfl⟩⟩;(try first|exact⟨rfl,_,World.drewN_drewN _ _ _⟩|exact⟨rfl,_,Eq.trans (World.drewN_drewN _ _ _) (congrArg (World.drewN _) (Nat.add_assoc _ _ _))⟩)))
    repeat (go_quiet (first|(go_at_call 106;(with_reducible refine(impl_within.calls Aq2.out).mono ?_);rintro e w' ⟨rfl,⟨nd,rfl⟩⟩;(try first|exact⟨rfl,_,World.drewN_drewN _ _ _⟩|exact⟨rfl,_,Eq.trans (World.drewN_drewN _ _ _) (congrArg (World.drewN _) (Nat.add_assoc _ _ _))⟩)));try go_wp2_with (first|(go_at_call 106;(with_reducible refine(impl_within.calls Aq2.out).mono ?_);rintro e w' ⟨rfl,⟨nd,rfl⟩⟩;(try first|exact⟨rfl,_,World.drewN_drewN _ _ _⟩|exact⟨rfl,_,Eq.trans (World.drewN_drewN _ _ _) (congrArg (World.drewN _) (Nat.add_assoc _ _ _))⟩))))
    go_meet
    case rel=>exact⟨_,(true),TF,H',⟨by first|omega|exact Nat.le_refl _⟩,⟨TK⟩,⟨TB⟩⟩
  case rest=>
   clear aI;try clear cq1
   try clear an
   try clear am
   try clear ao
   try clear ap
   try clear aC
   try clear aw
   try clear aq
   try clear az
   obtain⟨kq,xq1,rfl,HA,HJq1,aa,HB⟩:=hcut;cases kq with
   |zero=>exact absurd HA.out (by simp [impl_ManOk.j0])
   | succ kj7=>
    have H:=HA.out;clear HA;simp only[impl_ManOk.j0] at H
    by_cases cq6:xq1=true
    ·subst cq6;replace H:=ifT H;obtain rfl:=o_I H;go_wp2
     repeat (go_quiet (fail);try go_wp2)
     go_ret
     exact⟨TE,TB⟩
    ·replace cq6:=b_F cq6;subst cq6;replace H:=ifF H;have H':=aM H;clear H;obtain⟨aO,a8,bd,aX⟩:=cz4 aa.out;obtain⟨ba,aT,a9,aU⟩:=fz4 aa.out;go_wp2
     repeat (go_quiet (fail);try go_wp2)
     go_loopg [37] kj7 (fun kq vq2 w'=>∃(xq2:Int),vq2=.int .i64 xq2∧Aside0 (impl_ManOk.l0 kq ab (ab.length:Int) xq2 ae ad ac ab=some r)∧Aside0 (kq≤kj7)∧Aside0 (w'.heap[aF]?=some (.cells #[.int .i64 ae,.int .i64 ad,.int .i64 ac,(.slice ak ab.length ah)] 45 (0,0)))∧Aside0 (Below w.heap.size w w'))
     case atStart=>exact⟨(0),TF,H',⟨Nat.le_refl _⟩,⟨TK⟩,⟨TB⟩⟩
     case round=>
      clear H';try clear cq1
      try clear cq6
      try clear aO
      try clear a8
      try clear bd
      try clear aX
      try clear an
      try clear am
      try clear ao
      try clear ap
      try clear ba
      try clear aT
      try clear a9
      try clear aU
      try clear aC
      try clear aw
      try clear aq
      try clear az
      obtain⟨xq2,rfl,HA,HKq1,aa,HB⟩:=hrel;cases gk with
      |zero=>exact absurd HA.out (by simp [impl_ManOk.l0])
      | succ k2=>
       have H:=HA.out;clear HA;simp only[impl_ManOk.l0] at H
       by_cases cq7:xq2<(ab.length:Int)
       ·rw[if_pos cq7] at H;have cq8:decide (xq2<(ab.length:Int))=true:=decide_eq_true cq7;clear cq7;replace H:=ifN H;obtain⟨cq9,H⟩:=H;have cq10:decide (0≤xq2)=true:=decide_eq_true cq9;clear cq9;replace H:=ifN H;obtain⟨cq11,H⟩:=H;have cq12:decide (xq2<(ab.length:Int))=true:=decide_eq_true cq11;clear cq11;replace H:=bE H;obtain⟨⟨tq1,tq2⟩,Aq2,H⟩:=H;dsimp only at H;replace H:=bE H;obtain⟨⟨tq3,tq4⟩,Aq3,H⟩:=H;dsimp only at H;have pq2:0≤(xq2:Int):=DT;have qq1:xq2<(ab.length:Int):=DT;obtain⟨adq1,eq1,aK,aJ⟩:=at_T96 aj.out xq2 pq2 qq1;cases eq1;replace aK:=(HB.out.cell (World.block_lt_of_cell? w _ aK)).trans aK;replace aJ:=(HB.out.cell (World.block_lt_of_cell? w _ aJ)).trans aJ;replace pq2:=eq_true pq2;replace qq1:=eq_true qq1;go_wp2_with (first|(refine g_D 4 ?_;(try (refine gate_guard (by rfl) ?_;dsimp only));refine gBx 4 #[.int .i64 0,.int .i64 0] 96 ?_;intro aE hg wq3 hbox hb;have BKq2:=aM (hbox);have GWq2:=gW HB hg;have GEq2:=gW HB hg;obtain⟨NBq1,NBq2⟩:=nB aa hg;replace aa:=mB aa hb;replace HB:=bS HB hb;clear hb hbox hg;obtain⟨hnbq1,hncq1⟩:=oB NBq2;obtain⟨hczq21,hczq22⟩:=cz2 BKq2.out;obtain⟨hfzq21,hfzq22⟩:=fz2 BKq2.out)|(go_at_call 116;(with_reducible refine(impl_BytesOf.calls Aq2.out).mono ?_);rintro e wq4 ⟨vq3,rfl,hoq1,hb⟩;have HOq1:=aM (Kd.R_lower hoq1 (below_size TB));replace aa:=mB aa hb;replace BKq2:=aM (blk_below (g:=aE) (o:=.cells #[.int .i64 ((rd_T96 ab xq2).f0),.int .i64 ((rd_T96 ab xq2).f1)] 96 (0,0)) (blk_put (blk_put (cs:=#[.int .i64 0,.int .i64 0]) (TZ BKq2) 0 _ rfl) 1 _ rfl) hb);replace HB:=bS HB hb;clear hoq1 hb;obtain⟨hczq23,hczq24,hczq25,hczq26⟩:=cz4 aa.out;obtain⟨hfzq23,hfzq24,hfzq25,hfzq26⟩:=fz4 aa.out)|(refine g_C 108 ?_;refine g_D 54 ?_;generalize hG_:wpList _ _ _ _ _ _=G_))
        repeat (go_quiet (first|(refine g_D 4 ?_;(try (refine gate_guard (by rfl) ?_;dsimp only));refine gBx 4 #[.int .i64 0,.int .i64 0] 96 ?_;intro aE hg wq3 hbox hb;have BKq2:=aM (hbox);have GWq2:=gW HB hg;have GEq2:=gW HB hg;obtain⟨NBq1,NBq2⟩:=nB aa hg;replace aa:=mB aa hb;replace HB:=bS HB hb;clear hb hbox hg;obtain⟨hnbq1,hncq1⟩:=oB NBq2;obtain⟨hczq21,hczq22⟩:=cz2 BKq2.out;obtain⟨hfzq21,hfzq22⟩:=fz2 BKq2.out)|(go_at_call 116;(with_reducible refine(impl_BytesOf.calls Aq2.out).mono ?_);rintro e wq4 ⟨vq3,rfl,hoq1,hb⟩;have HOq1:=aM (Kd.R_lower hoq1 (below_size TB));replace aa:=mB aa hb;replace BKq2:=aM (blk_below (g:=aE) (o:=.cells #[.int .i64 ((rd_T96 ab xq2).f0),.int .i64 ((rd_T96 ab xq2).f1)] 96 (0,0)) (blk_put (blk_put (cs:=#[.int .i64 0,.int .i64 0]) (TZ BKq2) 0 _ rfl) 1 _ rfl) hb);replace HB:=bS HB hb;clear hoq1 hb;obtain⟨hczq23,hczq24,hczq25,hczq26⟩:=cz4 aa.out;obtain⟨hfzq23,hfzq24,hfzq25,hfzq26⟩:=fz4 aa.out)|(refine g_C 108 ?_;refine g_D 54 ?_;generalize hG_:wpList _ _ _ _ _ _=G_));try go_wp2_with (first|(refine g_D 4 ?_;(try (refine gate_guard (by rfl) ?_;dsimp only));refine gBx 4 #[.int .i64 0,.int .i64 0] 96 ?_;intro aE hg wq3 hbox hb;have BKq2:=aM (hbox);have GWq2:=gW HB hg;have GEq2:=gW HB hg;obtain⟨NBq1,NBq2⟩:=nB aa hg;replace aa:=mB aa hb;replace HB:=bS HB hb;clear hb hbox hg;obtain⟨hnbq1,hncq1⟩:=oB NBq2;obtain⟨hczq21,hczq22⟩:=cz2 BKq2.out;obtain⟨hfzq21,hfzq22⟩:=fz2 BKq2.out)|(go_at_call 116;(with_reducible refine(impl_BytesOf.calls Aq2.out).mono ?_);rintro e wq4 ⟨vq3,rfl,hoq1,hb⟩;have HOq1:=aM (Kd.R_lower hoq1 (below_size TB));replace aa:=mB aa hb;replace BKq2:=aM (blk_below (g:=aE) (o:=.cells #[.int .i64 ((rd_T96 ab xq2).f0),.int .i64 ((rd_T96 ab xq2).f1)] 96 (0,0)) (blk_put (blk_put (cs:=#[.int .i64 0,.int .i64 0]) (TZ BKq2) 0 _ rfl) 1 _ rfl) hb);replace HB:=bS HB hb;clear hoq1 hb;obtain⟨hczq23,hczq24,hczq25,hczq26⟩:=cz4 aa.out;obtain⟨hfzq23,hfzq24,hfzq25,hfzq26⟩:=fz4 aa.out)|(refine g_C 108 ?_;refine g_D 54 ?_;generalize hG_:wpList _ _ _ _ _ _=G_)))
        subst hG_
        by_cases aG:tq2=true
        ·subst aG;replace H:=ifT H
         by_cases ai:(tq1.length:Int)=tq4
         ·rw[if_pos ai] at H;have cq15:((tq1.length:Int)==tq4)=true:=beq_iff_eq.mpr ai;have cq16:((tq1.length:Int) != tq4)=false:=bne_eq_false_iff_eq.mpr ai;clear ai;replace H:=bE H;obtain⟨af,Aq4,H⟩:=H
          by_cases ag:af=((rd_T96 ab xq2).f0)
          ·rw[if_pos ag] at H;have cq18:(af==((rd_T96 ab xq2).f0))=true:=beq_iff_eq.mpr ag;have cq19:(af != ((rd_T96 ab xq2).f0))=false:=bne_eq_false_iff_eq.mpr ag;clear ag;have H':=aM H;clear H;go_wp2_with (first|(go_at_call 108;(with_reducible refine(impl_SpanOf.calls Aq3.out).mono ?_);rintro e wq5 ⟨rfl,hb⟩;replace HOq1:=mR HOq1 hb;replace aa:=mB aa hb;replace BKq2:=mB BKq2 hb;replace HB:=bS HB hb;clear hb;obtain⟨Aoq1,coq1,eoq1⟩:=Kd.R_slice HOq1.out;subst eoq1)|(go_at_call 117;(with_reducible refine(impl_WeakOf.calls ?side1 ?side2 Aq4.out).mono ?_);(case side1=>exact Zq25_1);(case side2=>exact(Kd.R_reads' HOq1.out).2.1);rintro e w' ⟨rfl,⟨nd,rfl⟩⟩;(try first|exact⟨rfl,_,World.drewN_drewN _ _ _⟩|exact⟨rfl,_,Eq.trans (World.drewN_drewN _ _ _) (congrArg (World.drewN _) (Nat.add_assoc _ _ _))⟩);obtain⟨hnbq2,hncq2⟩:=oB NBq2;obtain⟨hczq27,hczq28⟩:=cz2 BKq2.out;obtain⟨hfzq27,hfzq28⟩:=fz2 BKq2.out))
           repeat (go_quiet (first|(go_at_call 108;(with_reducible refine(impl_SpanOf.calls Aq3.out).mono ?_);rintro e wq5 ⟨rfl,hb⟩;replace HOq1:=mR HOq1 hb;replace aa:=mB aa hb;replace BKq2:=mB BKq2 hb;replace HB:=bS HB hb;clear hb;obtain⟨Aoq1,coq1,eoq1⟩:=Kd.R_slice HOq1.out;subst eoq1)|(go_at_call 117;(with_reducible refine(impl_WeakOf.calls ?side1 ?side2 Aq4.out).mono ?_);(case side1=>exact Zq25_1);(case side2=>exact(Kd.R_reads' HOq1.out).2.1);rintro e w' ⟨rfl,⟨nd,rfl⟩⟩;(try first|exact⟨rfl,_,World.drewN_drewN _ _ _⟩|exact⟨rfl,_,Eq.trans (World.drewN_drewN _ _ _) (congrArg (World.drewN _) (Nat.add_assoc _ _ _))⟩);obtain⟨hnbq2,hncq2⟩:=oB NBq2;obtain⟨hczq27,hczq28⟩:=cz2 BKq2.out;obtain⟨hfzq27,hfzq28⟩:=fz2 BKq2.out));try go_wp2_with (first|(go_at_call 108;(with_reducible refine(impl_SpanOf.calls Aq3.out).mono ?_);rintro e wq5 ⟨rfl,hb⟩;replace HOq1:=mR HOq1 hb;replace aa:=mB aa hb;replace BKq2:=mB BKq2 hb;replace HB:=bS HB hb;clear hb;obtain⟨Aoq1,coq1,eoq1⟩:=Kd.R_slice HOq1.out;subst eoq1)|(go_at_call 117;(with_reducible refine(impl_WeakOf.calls ?side1 ?side2 Aq4.out).mono ?_);(case side1=>exact Zq25_1);(case side2=>exact(Kd.R_reads' HOq1.out).2.1);rintro e w' ⟨rfl,⟨nd,rfl⟩⟩;(try first|exact⟨rfl,_,World.drewN_drewN _ _ _⟩|exact⟨rfl,_,Eq.trans (World.drewN_drewN _ _ _) (congrArg (World.drewN _) (Nat.add_assoc _ _ _))⟩);obtain⟨hnbq2,hncq2⟩:=oB NBq2;obtain⟨hczq27,hczq28⟩:=cz2 BKq2.out;obtain⟨hfzq27,hfzq28⟩:=fz2 BKq2.out)))
           go_roundg k2
           case measure=>have:=HJq1.out;have:=HKq1.out;omega
           case rel=>exact⟨(wrap64 (xq2+1)),TF,H',⟨by have:=HJq1.out;have:=HKq1.out;omega⟩,⟨TK⟩,⟨TB⟩⟩
          ·rw[if_neg ag] at H;have cq18:(af==((rd_T96 ab xq2).f0))=false:=beq_eq_false_iff_ne.mpr ag;have cq19:(af != ((rd_T96 ab xq2).f0))=true:=bne_iff_ne.mpr ag;obtain rfl:=o_I H;go_wp2_with (first|(go_at_call 108;(with_reducible refine(impl_SpanOf.calls Aq3.out).mono ?_);rintro e wq5 ⟨rfl,hb⟩;replace HOq1:=mR HOq1 hb;replace aa:=mB aa hb;replace BKq2:=mB BKq2 hb;replace HB:=bS HB hb;clear hb;obtain⟨Aoq1,coq1,eoq1⟩:=Kd.R_slice HOq1.out;subst eoq1)|(go_at_call 117;(with_reducible refine(impl_WeakOf.calls ?side1 ?side2 Aq4.out).mono ?_);(case side1=>exact Zq25_1);(case side2=>exact(Kd.R_reads' HOq1.out).2.1);rintro e w' ⟨rfl,⟨nd,rfl⟩⟩;(try first|exact⟨rfl,_,World.drewN_drewN _ _ _⟩|exact⟨rfl,_,Eq.trans (World.drewN_drewN _ _ _) (congrArg (World.drewN _) (Nat.add_assoc _ _ _))⟩);obtain⟨hnbq2,hncq2⟩:=oB NBq2;obtain⟨hczq27,hczq28⟩:=cz2 BKq2.out;obtain⟨hfzq27,hfzq28⟩:=fz2 BKq2.out))
           repeat (go_quiet (first|(go_at_call 108;(with_reducible refine(impl_SpanOf.calls Aq3.out).mono ?_);rintro e wq5 ⟨rfl,hb⟩;replace HOq1:=mR HOq1 hb;replace aa:=mB aa hb;replace BKq2:=mB BKq2 hb;replace HB:=bS HB hb;clear hb;obtain⟨Aoq1,coq1,eoq1⟩:=Kd.R_slice HOq1.out;subst eoq1)|(go_at_call 117;(with_reducible refine(impl_WeakOf.calls ?side1 ?side2 Aq4.out).mono ?_);(case side1=>exact Zq25_1);(case side2=>exact(Kd.R_reads' HOq1.out).2.1);rintro e w' ⟨rfl,⟨nd,rfl⟩⟩;(try first|exact⟨rfl,_,World.drewN_drewN _ _ _⟩|exact⟨rfl,_,Eq.trans (World.drewN_drewN _ _ _) (congrArg (World.drewN _) (Nat.add_assoc _ _ _))⟩);obtain⟨hnbq2,hncq2⟩:=oB NBq2;obtain⟨hczq27,hczq28⟩:=cz2 BKq2.out;obtain⟨hfzq27,hfzq28⟩:=fz2 BKq2.out));try go_wp2_with (first|(go_at_call 108;(with_reducible refine(impl_SpanOf.calls Aq3.out).mono ?_);rintro e wq5 ⟨rfl,hb⟩;replace HOq1:=mR HOq1 hb;replace aa:=mB aa hb;replace BKq2:=mB BKq2 hb;replace HB:=bS HB hb;clear hb;obtain⟨Aoq1,coq1,eoq1⟩:=Kd.R_slice HOq1.out;subst eoq1)|(go_at_call 117;(with_reducible refine(impl_WeakOf.calls ?side1 ?side2 Aq4.out).mono ?_);(case side1=>exact Zq25_1);(case side2=>exact(Kd.R_reads' HOq1.out).2.1);rintro e w' ⟨rfl,⟨nd,rfl⟩⟩;(try first|exact⟨rfl,_,World.drewN_drewN _ _ _⟩|exact⟨rfl,_,Eq.trans (World.drewN_drewN _ _ _) (congrArg (World.drewN _) (Nat.add_assoc _ _ _))⟩);obtain⟨hnbq2,hncq2⟩:=oB NBq2;obtain⟨hczq27,hczq28⟩:=cz2 BKq2.out;obtain⟨hfzq27,hfzq28⟩:=fz2 BKq2.out)))
           go_ret
           exact⟨TE,TB⟩
         ·rw[if_neg ai] at H;have cq15:((tq1.length:Int)==tq4)=false:=beq_eq_false_iff_ne.mpr ai;have cq16:((tq1.length:Int) != tq4)=true:=bne_iff_ne.mpr ai;obtain rfl:=o_I H;go_wp2_with (first|(go_at_call 108;(with_reducible refine(impl_SpanOf.calls Aq3.out).mono ?_);rintro e wq5 ⟨rfl,hb⟩;replace HOq1:=mR HOq1 hb;replace aa:=mB aa hb;replace BKq2:=mB BKq2 hb;replace HB:=bS HB hb;clear hb;obtain⟨Aoq1,coq1,eoq1⟩:=Kd.R_slice HOq1.out;subst eoq1))
          repeat (go_quiet (first|(go_at_call 108;(with_reducible refine(impl_SpanOf.calls Aq3.out).mono ?_);rintro e wq5 ⟨rfl,hb⟩;replace HOq1:=mR HOq1 hb;replace aa:=mB aa hb;replace BKq2:=mB BKq2 hb;replace HB:=bS HB hb;clear hb;obtain⟨Aoq1,coq1,eoq1⟩:=Kd.R_slice HOq1.out;subst eoq1));try go_wp2_with (first|(go_at_call 108;(with_reducible refine(impl_SpanOf.calls Aq3.out).mono ?_);rintro e wq5 ⟨rfl,hb⟩;replace HOq1:=mR HOq1 hb;replace aa:=mB aa hb;replace BKq2:=mB BKq2 hb;replace HB:=bS HB hb;clear hb;obtain⟨Aoq1,coq1,eoq1⟩:=Kd.R_slice HOq1.out;subst eoq1)))
          go_ret
          exact⟨TE,TB⟩
        ·replace aG:=b_F aG;subst aG;replace H:=ifF H;obtain rfl:=o_I H;go_wp2_with (first|(go_at_call 108;(with_reducible refine(impl_SpanOf.calls Aq3.out).mono ?_);rintro e wq5 ⟨rfl,hb⟩;replace HOq1:=mR HOq1 hb;replace aa:=mB aa hb;replace BKq2:=mB BKq2 hb;replace HB:=bS HB hb;clear hb))
         repeat (go_quiet (first|(go_at_call 108;(with_reducible refine(impl_SpanOf.calls Aq3.out).mono ?_);rintro e wq5 ⟨rfl,hb⟩;replace HOq1:=mR HOq1 hb;replace aa:=mB aa hb;replace BKq2:=mB BKq2 hb;replace HB:=bS HB hb;clear hb));try go_wp2_with (first|(go_at_call 108;(with_reducible refine(impl_SpanOf.calls Aq3.out).mono ?_);rintro e wq5 ⟨rfl,hb⟩;replace HOq1:=mR HOq1 hb;replace aa:=mB aa hb;replace BKq2:=mB BKq2 hb;replace HB:=bS HB hb;clear hb)))
         go_ret
         exact⟨TE,TB⟩
       ·rw[if_neg cq7] at H;have cq8:decide (xq2<(ab.length:Int))=false:=decide_eq_false cq7;clear cq7;obtain rfl:=o_I H;go_wp2
        repeat (go_quiet (fail);try go_wp2)
        go_ret
        exact⟨TE,TB⟩
attribute [local go_sem] min2_int min_two
attribute [local go_sem high] eqA96
theorem Zq27_0 {p:Prop}(h:p:=by exact Kd.V_mk aI.out (Kd.F_below (Kd.C_F (Kd.heap_int .u8) aL.out) TB)):p:=h
theorem Zq27_1 {p:Prop}(h:p:=by repeat (first|exact(Kd.C_below ar.out TB)|(with_reducible refine Kd.C_alloc ?_ _)|(with_reducible refine Kd.C_drewN ?_ _)|(with_reducible refine Kd.C_drew ?_))):p:=h
mutual
def impl_BuildOk.j0 :Nat→Bool→Int→Int→Int→List (S96)→Int→List Int→Option (Bool)
  |0,_,_,_,_,_,_,_=>none
  |k+1,x32,x654000,x654001,x654002,x654003,x655000,x655001=>if x32=true then (some false) else (impl_BuildOk.l0 k x654003 (x654003.length:Int) 0 x654000 x654001 x654002 x654003 x655000 x655001)
def impl_BuildOk.l0 :Nat→List (S96)→Int→Int→Int→Int→Int→List (S96)→Int→List Int→Option (Bool)
  |0,_,_,_,_,_,_,_,_,_=>none
  |k+1,x34,x35,x36,x654000,x654001,x654002,x654003,x655000,x655001=>if x36<x35 then (if 0≤x36 then (if x36<(x34.length:Int) then ((impl_Build_block.f x655000 x655001 x654000 x654001 x654002 x654003 x36).bind fun t660=>((impl_InSet.f x655000 x36).bind fun t663=>(if t663=true then ((impl_SumOf.f k t660).bind fun bt664=>(if (!(bt664.1==((rd_T96 x34 x36).f0))||(!(bt664.2==((rd_T96 x34 x36).f1))))=true then (some false) else ((impl_InSet.f x655000 x36).bind fun t666=>(if t666=true then (impl_BuildOk.l0 k x34 x35 (wrap64 (x36+1)) x654000 x654001 x654002 x654003 x655000 x655001) else ((slices_ContainsFunc_byte_byte.f k t660).bind fun t667=>(if t667=true then (some false) else (impl_BuildOk.l0 k x34 x35 (wrap64 (x36+1)) x654000 x654001 x654002 x654003 x655000 x655001))))))) else ((impl_InSet.f x655000 x36).bind fun t668=>(if t668=true then (impl_BuildOk.l0 k x34 x35 (wrap64 (x36+1)) x654000 x654001 x654002 x654003 x655000 x655001) else ((slices_ContainsFunc_byte_byte.f k t660).bind fun t669=>(if t669=true then (some false) else (impl_BuildOk.l0 k x34 x35 (wrap64 (x36+1)) x654000 x654001 x654002 x654003 x655000 x655001)))))))) else (none)) else (none)) else (some true)
end
def impl_BuildOk.f (k:Nat)(a0_0:Int)(a0_1:Int)(a0_2:Int)(l0_3:List (S96))(a1_0:Int)(l1_1:List Int):Option (Bool):=(impl_ManOk.f k a0_0 a0_1 a0_2 l0_3).bind fun t655=>(if t655=true then ((impl_SetOk.f a1_0).bind fun t656=>(if t656=true then ((impl_AllParts.f a0_0 a0_1 a0_2 l0_3).bind fun t657=>(if (Go.bits .andNot .i64 a1_0 t657)=0 then (impl_BuildOk.j0 k ((l1_1.length:Int) != a0_2) a0_0 a0_1 a0_2 l0_3 a1_0 l1_1) else (impl_BuildOk.j0 k true a0_0 a0_1 a0_2 l0_3 a1_0 l1_1))) else (impl_BuildOk.j0 k true a0_0 a0_1 a0_2 l0_3 a1_0 l1_1))) else (impl_BuildOk.j0 k true a0_0 a0_1 a0_2 l0_3 a1_0 l1_1))
theorem impl_BuildOk.mono_l :∀k,(∀y0 y1 y2 y3 y4 y5 y6,LeO (impl_BuildOk.j0 k y0 y1 y2 y3 y4 y5 y6) (impl_BuildOk.j0 (k+1) y0 y1 y2 y3 y4 y5 y6))∧(∀y0 y1 y2 y3 y4 y5 y6 y7 y8,LeO (impl_BuildOk.l0 k y0 y1 y2 y3 y4 y5 y6 y7 y8) (impl_BuildOk.l0 (k+1) y0 y1 y2 y3 y4 y5 y6 y7 y8))
  |0=>⟨fun _ _ _ _ _ _ _ r h=>by simp [impl_BuildOk.j0] at h,fun _ _ _ _ _ _ _ _ _ r h=>by simp [impl_BuildOk.l0] at h⟩
  | k+1=>by
    have m0_:=@impl_ManOk.mono
    have m1_:=@impl_SumOf.mono
    have m2_:=@slices_ContainsFunc_byte_byte.mono
    obtain⟨ih0,ih1⟩:=impl_BuildOk.mono_l k
    refine⟨?_,?_⟩
    · intro y0 y1 y2 y3 y4 y5 y6
      unfold impl_BuildOk.j0
      exact LM
    · intro y0 y1 y2 y3 y4 y5 y6 y7 y8
      unfold impl_BuildOk.l0
      exact LM
theorem impl_BuildOk.mono :∀a0 a1 a2 a3 a4 a5 k,LeO (impl_BuildOk.f k a0 a1 a2 a3 a4 a5) (impl_BuildOk.f (k+1) a0 a1 a2 a3 a4 a5):=by
  intro a0 a1 a2 a3 a4 a5 k;have m0_:=@impl_ManOk.mono;have m1_:=@impl_SumOf.mono;have m2_:=@slices_ContainsFunc_byte_byte.mono;obtain⟨ih0,ih1⟩:=impl_BuildOk.mono_l k;unfold impl_BuildOk.f;exact LM
def impl_BuildOk.T1 :Bool×List (List Nat×List Nat):=(true,[([],[]),([0],[0]),([1],[1]),([2,1],[2]),([3],[3]),([4,3],[3,4]),([5,3,3],[3,5]),([6,3],[3,6]),([3,7],[3,7]),([8,6],[8]),([9],[9]),([10,9],[9,10]),([9],[9]),([12,9,9],[9,12]),([11,13,9],[9,11,13]),([14,9],[9,14]),([9,15],[9,15]),([16,13],[16]),([17],[17]),([18,17],[17,18]),([19,17],[17,19]),([17],[17]),([21,17],[17,21]),([20,22,17],[17,20,22]),([17,23],[17,23])])
def impl_BuildOk.B1 :List Nat:=[0,1,3,7,15,31,63,127,255,511,1023,2047,1023,5119,16383,32767,65535,131071,262143,524287,1048575,262143,2359295,8388607,16777215]
theorem impl_BuildOk.tab1 :rtab .any (opsOf Tryz.f64 1)=impl_BuildOk.T1:=by kernel_rfl
theorem impl_BuildOk.bits1 :waitsOk impl_BuildOk.T1.2 impl_BuildOk.B1=true:=by kernel_rfl
def impl_BuildOk.T7 :Bool×List (List Nat×List Nat):=(true,[([],[]),([0],[0]),([],[]),([1,2],[1,2]),([3,3],[3]),([4],[4]),([5,4,4],[4,5]),([4],[4]),([6,7,4],[4,6,7]),([4,8],[4,8]),([9,6],[9]),([10],[10]),([11,10],[10,11]),([10],[10]),([12,13,10,10],[10,12,13]),([14,10],[10,14]),([15,14,10],[10,15]),([16],[16]),([17,16,16],[16,17]),([16,18,10],[10,16,18]),([10,19],[10,19])])
def impl_BuildOk.B7 :List Nat:=[0,1,0,7,15,31,63,31,255,511,1023,2047,4095,2047,16383,32767,65535,131071,262143,524287,1048575]
theorem impl_BuildOk.tab7 :rtab .any (opsOf Tryz.f64 7)=impl_BuildOk.T7:=by kernel_rfl
theorem impl_BuildOk.bits7 :waitsOk impl_BuildOk.T7.2 impl_BuildOk.B7=true:=by kernel_rfl
theorem Yq27_1 {p:Prop}(h:p:=by
 try go_wp2
 go_roundg k2
 case measure=>have:=ax.out;have:=aA.out;omega
 case rel=>exact⟨(wrap64 (xq2+1)),TF,H',⟨by have:=ax.out;have:=aA.out;omega⟩,⟨TK⟩,⟨TK⟩,⟨TB⟩⟩):p:=h
theorem Yq27_0 {p:Prop}(h:p:=by
 refine ppq 16 24 ?_;refine ppq 17 25 ?_;refine pxq 18 26 ?_;refine pxq 19 27 ?_;refine pxq 20 28 ?_;refine pxq 21 29 ?_;refine pxq 22 30 ?_;refine pxq 23 31 ?_;refine ppq 24 32 ?_;refine done_ (done_of HT_.out (by kernel_rfl)) ?_;try go_wp2
 go_meet
 case rel=>exact⟨_,(true),TF,H',⟨by first|omega|exact Nat.le_refl _⟩,⟨TK⟩,⟨TK⟩,⟨TB⟩⟩):p:=h
theorem impl_BuildOk.calls {k:Nat}{ah:Int}{ag:Int}{af:Int}{au:Option Addr}{ak:Nat}{ac:List (S96)}{ad:Int}{al:Option Addr}{am:Nat}{aj:List Int}{r:Bool}{w:World}(aR:Kd.C k96 w au ac.length ac)(aS:ac.length≤ak)(aT:Kd.C (Kd.int .u8) w al aj.length aj)(aQ:aj.length≤am)(h:impl_BuildOk.f k ah ag af ac ad aj=some r):
  Calls Tryz.prog 64 #[.agg #[.int .i64 ah,.int .i64 ag,.int .i64 af,.slice au ac.length ak],.agg #[.int .i64 ad,.slice al aj.length am]] w fun e w'=>e=.returned (.bool r)∧Below w.heap.size w w':=by
 have huq1:=Tryz.underlying45;have huq2:=Tryz.underlying47;have huq3:=Tryz.underlying96;have ar:=aM aR;have av:=aM aS;clear aR aS;have aL:=aM aT;have aI:=aM aQ;clear aT aQ;have HB:=aM (Below.refl w.heap.size w);have H:=h;clear h;unfold impl_BuildOk.f at H;have aN:=aM H;clear H;go_enter Tryz.func64,Tryz.ntmps64;go_upto_region 1 with (first|(refine g_D 2 ?_;(try (refine gate_guard (by rfl) ?_;dsimp only));refine gBx 2 #[.int .i64 ah,.int .i64 ag,.int .i64 af,.slice au ac.length ak] 45 ?_;intro aw hg wq1 hbox hb;have ab:=aM (hbox);have GWq1:=gW HB hg;have GEq1:=gW HB hg;replace HB:=bS HB hb;clear hb hbox hg)|(refine g_D 3 ?_;(try (refine gate_guard (by rfl) ?_;dsimp only));refine gBx 3 #[.int .i64 ad,.slice al aj.length am] 47 ?_;intro gbq2 hg wq2 hbox hb;have aa:=aM (hbox);have GWq2:=gW HB hg;have GEq2:=gW HB hg;obtain⟨NBq1,NBq2⟩:=nB ab hg;replace ab:=mB ab hb;replace HB:=bS HB hb;clear hb hbox hg))
 (try simp only[NP])
 go_cut [32] (fun vq1 wc=>∃(kq:Nat) (xq1:Bool),vq1=.bool xq1∧Aside0 (impl_BuildOk.j0 kq xq1 ah ag af ac ad aj=some r)∧Aside0 (kq≤k)∧Aside0 (wc.heap[aw]?=some (.cells #[.int .i64 ah,.int .i64 ag,.int .i64 af,(.slice au ac.length ak)] 45 (0,0)))∧Aside0 (wc.heap[gbq2]?=some (.cells #[.int .i64 ad,(.slice al aj.length am)] 47 (0,0)))∧Aside0 (Below w.heap.size w wc))
 case first=>
  have H:=aN.out;clear aN;replace H:=bE H;obtain⟨t655,Aq1,H⟩:=H
  by_cases cq1:t655=true
  ·subst cq1;replace H:=ifT H;replace H:=bE H;obtain⟨t656,Aq2,H⟩:=H
   by_cases cq2:t656=true
   ·subst cq2;replace H:=ifT H;replace H:=bE H;obtain⟨aC,Aq3,H⟩:=H
    by_cases cq3:(Go.bits .andNot .i64 ad aC)=0
    ·rw[if_pos cq3] at H;have cq4:((Go.bits .andNot .i64 ad aC)==0)=true:=beq_iff_eq.mpr cq3;have cq5:((Go.bits .andNot .i64 ad aC) != 0)=false:=bne_eq_false_iff_eq.mpr cq3;clear cq3;(first|rw[cq4]|(simp only[i64_w,i32_w];rw[cq4])|skip);have H':=aM H;clear H;try go_wp2
     replace ab:=bD ab;replace aa:=bD aa;replace HB:=aM (below_drew1 HB.out);refine st_ (n:=25) (ds:=[]) (Array.replicate 25 false) (hJ4 ab.out (hK2 aa.out)) (by kernel_rfl) rfl rfl (fun hHeld=>?_);refine with_tabW impl_BuildOk.tab1 impl_BuildOk.bits1 (fun HT_ HW_=>?_);generalize wq2.drew=wq3 at ab aa HB hHeld ⊢;refine ptq 0 8 ?_;refine poq 1 9 (fun K hK=>?_);refine gG Tryz.func92 #[.agg #[.int .i64 ah,.int .i64 ag,.int .i64 af,.slice au ac.length ak]] ?_;with_reducible refine(impl_ManOk.calls ?side1 ?side2 Aq1.out).mono ?_
     (case side1=>have X_:=(Kd.C_below ar.out HB.out);exact TC);(case side2=>exact av.out);rintro e wq4 ⟨rfl,hb⟩;refine⟨_,rfl,?_⟩;replace ab:=mB ab hb;replace aa:=mB aa hb;replace HB:=bS HB hb;(try clear hb);refine hK.out _ _ (cJ4 ab.out (cK2 aa.out)) (fun hHeld=>?_);clear hK K;refine nR ?_;refine ppq 2 10 ?_;refine ppq 3 11 ?_;refine ppq 4 12 ?_;refine ptq 5 13 ?_;refine poq 6 14 (fun K hK=>?_);refine gG Tryz.func93 #[.int .i64 ad] ?_;with_reducible refine(impl_SetOk.calls Aq2.out).mono ?_
     rintro e w' ⟨rfl,⟨nd,rfl⟩⟩;refine⟨_,rfl,?_⟩;refine hK.out _ _ (cJ4 ab.out (cK2 aa.out)) (fun hHeld=>?_);clear hK K;refine nR ?_;refine ppq 7 15 ?_;refine ppq 8 16 ?_;refine ppq 9 17 ?_;refine ppq 10 18 ?_;refine ptq 11 19 ?_;refine ptq 12 20 ?_;refine poq 13 21 (fun K hK=>?_);refine gG Tryz.func94 #[.agg #[.int .i64 ah,.int .i64 ag,.int .i64 af,.slice au ac.length ak]] ?_;with_reducible refine(impl_AllParts.calls ?side1 ?side2 Aq3.out).mono ?_
     (case side1=>exact Zq27_1);(case side2=>exact av.out);rintro e wq5 ⟨rfl,hb⟩;refine⟨_,rfl,?_⟩;replace ab:=mB ab hb;replace aa:=mB aa hb;replace HB:=bS HB hb;(try clear hb);refine hK.out _ _ (cJ4 ab.out (cK2 aa.out)) (fun hHeld=>?_);clear hK K;refine nR ?_;refine ppq 14 22 ?_;refine ppq 15 23 ?_;refine ppq 16 24 ?_;refine ppq 17 25 ?_;refine ppq 18 26 ?_;refine ppq 21 29 ?_;refine ptq 19 27 ?_;refine ppq 20 28 ?_;refine ptq 22 30 ?_;refine ppq 23 31 ?_;refine ppq 24 32 ?_;refine done_ (done_of HT_.out (by kernel_rfl)) ?_;try go_wp2
     go_meet
     case rel=>exact⟨_,(((aj.length:Int) != af)),TF,H',⟨by first|omega|exact Nat.le_refl _⟩,⟨TK⟩,⟨TK⟩,⟨TB⟩⟩
    ·rw[if_neg cq3] at H;have cq4:((Go.bits .andNot .i64 ad aC)==0)=false:=beq_eq_false_iff_ne.mpr cq3;have cq5:((Go.bits .andNot .i64 ad aC) != 0)=true:=bne_iff_ne.mpr cq3;(first|rw[cq4]|(simp only[i64_w,i32_w];rw[cq4])|skip);have H':=aM H;clear H;try go_wp2
     replace ab:=bD ab;replace aa:=bD aa;replace HB:=aM (below_drew1 HB.out);refine st_ (n:=25) (ds:=[]) (Array.replicate 25 false) (hJ4 ab.out (hK2 aa.out)) (by kernel_rfl) rfl rfl (fun hHeld=>?_);refine with_tabW impl_BuildOk.tab1 impl_BuildOk.bits1 (fun HT_ HW_=>?_);generalize wq2.drew=wq3 at ab aa HB hHeld ⊢;refine ptq 0 8 ?_;refine poq 1 9 (fun K hK=>?_);refine gG Tryz.func92 #[.agg #[.int .i64 ah,.int .i64 ag,.int .i64 af,.slice au ac.length ak]] ?_;with_reducible refine(impl_ManOk.calls ?side1 ?side2 Aq1.out).mono ?_
     (case side1=>have X_:=(Kd.C_below ar.out HB.out);exact TC);(case side2=>exact av.out);rintro e wq4 ⟨rfl,hb⟩;refine⟨_,rfl,?_⟩;replace ab:=mB ab hb;replace aa:=mB aa hb;replace HB:=bS HB hb;(try clear hb);refine hK.out _ _ (cJ4 ab.out (cK2 aa.out)) (fun hHeld=>?_);clear hK K;refine nR ?_;refine ppq 2 10 ?_;refine ppq 3 11 ?_;refine ppq 4 12 ?_;refine ptq 5 13 ?_;refine poq 6 14 (fun K hK=>?_);refine gG Tryz.func93 #[.int .i64 ad] ?_;with_reducible refine(impl_SetOk.calls Aq2.out).mono ?_
     rintro e w' ⟨rfl,⟨nd,rfl⟩⟩;refine⟨_,rfl,?_⟩;refine hK.out _ _ (cJ4 ab.out (cK2 aa.out)) (fun hHeld=>?_);clear hK K;refine nR ?_;refine ppq 7 15 ?_;refine ppq 8 16 ?_;refine ppq 9 17 ?_;refine ppq 10 18 ?_;refine ptq 11 19 ?_;refine ptq 12 20 ?_;refine poq 13 21 (fun K hK=>?_);refine gG Tryz.func94 #[.agg #[.int .i64 ah,.int .i64 ag,.int .i64 af,.slice au ac.length ak]] ?_;with_reducible refine(impl_AllParts.calls ?side1 ?side2 Aq3.out).mono ?_
     (case side1=>exact Zq27_1);(case side2=>exact av.out);rintro e wq5 ⟨rfl,hb⟩;refine⟨_,rfl,?_⟩;replace ab:=mB ab hb;replace aa:=mB aa hb;replace HB:=bS HB hb;(try clear hb);refine hK.out _ _ (cJ4 ab.out (cK2 aa.out)) (fun hHeld=>?_);clear hK K;refine nR ?_;refine ppq 14 22 ?_;refine ppq 15 23 ?_;exact Yq27_0
   ·replace cq2:=b_F cq2;subst cq2;replace H:=ifF H;have H':=aM H;clear H;try go_wp2
    replace ab:=bD ab;replace aa:=bD aa;replace HB:=aM (below_drew1 HB.out);refine st_ (n:=25) (ds:=[]) (Array.replicate 25 false) (hJ4 ab.out (hK2 aa.out)) (by kernel_rfl) rfl rfl (fun hHeld=>?_);refine with_tabW impl_BuildOk.tab1 impl_BuildOk.bits1 (fun HT_ HW_=>?_);generalize wq2.drew=wq3 at ab aa HB hHeld ⊢;refine ptq 0 8 ?_;refine poq 1 9 (fun K hK=>?_);refine gG Tryz.func92 #[.agg #[.int .i64 ah,.int .i64 ag,.int .i64 af,.slice au ac.length ak]] ?_;with_reducible refine(impl_ManOk.calls ?side1 ?side2 Aq1.out).mono ?_
    (case side1=>have X_:=(Kd.C_below ar.out HB.out);exact TC);(case side2=>exact av.out);rintro e wq4 ⟨rfl,hb⟩;refine⟨_,rfl,?_⟩;replace ab:=mB ab hb;replace aa:=mB aa hb;replace HB:=bS HB hb;(try clear hb);refine hK.out _ _ (cJ4 ab.out (cK2 aa.out)) (fun hHeld=>?_);clear hK K;refine nR ?_;refine ppq 2 10 ?_;refine ppq 3 11 ?_;refine ppq 4 12 ?_;refine ptq 5 13 ?_;refine poq 6 14 (fun K hK=>?_);refine gG Tryz.func93 #[.int .i64 ad] ?_;with_reducible refine(impl_SetOk.calls Aq2.out).mono ?_
    rintro e w' ⟨rfl,⟨nd,rfl⟩⟩;refine⟨_,rfl,?_⟩;refine hK.out _ _ (cJ4 ab.out (cK2 aa.out)) (fun hHeld=>?_);clear hK K;refine nR ?_;refine ppq 7 15 ?_;refine ppq 8 16 ?_;refine ppq 9 17 ?_;refine pxq 10 18 ?_;refine pxq 11 19 ?_;refine pxq 12 20 ?_;refine pxq 13 21 ?_;refine pxq 14 22 ?_;refine pxq 15 23 ?_;exact Yq27_0
  ·replace cq1:=b_F cq1;subst cq1;replace H:=ifF H;have H':=aM H;clear H;try go_wp2
   replace ab:=bD ab;replace aa:=bD aa;replace HB:=aM (below_drew1 HB.out);refine st_ (n:=25) (ds:=[]) (Array.replicate 25 false) (hK4 ab.out) (by kernel_rfl) rfl rfl (fun hHeld=>?_);refine with_tabW impl_BuildOk.tab1 impl_BuildOk.bits1 (fun HT_ HW_=>?_);generalize wq2.drew=wq3 at ab aa HB hHeld ⊢;refine ptq 0 8 ?_;refine poq 1 9 (fun K hK=>?_);refine gG Tryz.func92 #[.agg #[.int .i64 ah,.int .i64 ag,.int .i64 af,.slice au ac.length ak]] ?_;with_reducible refine(impl_ManOk.calls ?side1 ?side2 Aq1.out).mono ?_
   (case side1=>have X_:=(Kd.C_below ar.out HB.out);exact TC);(case side2=>exact av.out);rintro e wq4 ⟨rfl,hb⟩;refine⟨_,rfl,?_⟩;replace ab:=mB ab hb;replace aa:=mB aa hb;replace HB:=bS HB hb;(try clear hb);refine hK.out _ _ (cz4 ab.out) (fun hHeld=>?_);clear hK K;refine nR ?_;refine ppq 2 10 ?_;refine ppq 3 11 ?_;refine pxq 4 12 ?_;refine pxq 5 13 ?_;refine pxq 6 14 ?_;refine pxq 7 15 ?_;refine ppq 8 16 ?_;refine ppq 9 17 ?_;refine pxq 10 18 ?_;refine pxq 11 19 ?_;refine pxq 12 20 ?_;refine pxq 13 21 ?_;refine pxq 14 22 ?_;refine pxq 15 23 ?_;exact Yq27_0
 case rest=>
  clear aN;obtain⟨kq,xq1,rfl,HA,ax,ab,aa,HB⟩:=hcut;cases kq with
  |zero=>exact absurd HA.out (by simp [impl_BuildOk.j0])
  | succ kj2=>
   have H:=HA.out;clear HA;simp only[impl_BuildOk.j0] at H
   by_cases cq7:xq1=true
   ·subst cq7;replace H:=ifT H;obtain rfl:=o_I H;go_wp2
    go_ret
    exact⟨TE,TB⟩
   ·replace cq7:=b_F cq7;subst cq7;replace H:=ifF H;have H':=aM H;clear H;obtain⟨hnbq1,hncq1⟩:=oB NBq1;obtain⟨hczq1,hczq2,hczq3,hczq4⟩:=cz4 ab.out;obtain⟨hfzq1,hfzq2,hfzq3,hfzq4⟩:=fz4 ab.out;go_wp2
    go_loopg [36] kj2 (fun kq vq2 w'=>∃(xq2:Int),vq2=.int .i64 xq2∧Aside0 (impl_BuildOk.l0 kq ac (ac.length:Int) xq2 ah ag af ac ad aj=some r)∧Aside0 (kq≤kj2)∧Aside0 (w'.heap[aw]?=some (.cells #[.int .i64 ah,.int .i64 ag,.int .i64 af,(.slice au ac.length ak)] 45 (0,0)))∧Aside0 (w'.heap[gbq2]?=some (.cells #[.int .i64 ad,(.slice al aj.length am)] 47 (0,0)))∧Aside0 (Below w.heap.size w w'))
    case atStart=>exact⟨(0),TF,H',⟨Nat.le_refl _⟩,⟨TK⟩,⟨TK⟩,⟨TB⟩⟩
    case round=>
     clear H';try clear cq7
     try clear hczq1
     try clear hczq2
     try clear hczq3
     try clear hczq4
     try clear hfzq1
     try clear hfzq2
     try clear hfzq3
     try clear hfzq4
     obtain⟨xq2,rfl,HA,aA,ab,aa,HB⟩:=hrel;cases gk with
     |zero=>exact absurd HA.out (by simp [impl_BuildOk.l0])
     | succ k2=>
      have H:=HA.out;clear HA;simp only[impl_BuildOk.l0] at H
      by_cases aG:xq2<(ac.length:Int)
      ·rw[if_pos aG] at H;have cq11:decide (xq2<(ac.length:Int))=true:=decide_eq_true aG;clear aG;replace H:=ifN H;obtain⟨cq12,H⟩:=H;have cq13:decide (0≤xq2)=true:=decide_eq_true cq12;clear cq12;replace H:=ifN H;obtain⟨cq14,H⟩:=H;have cq15:decide (xq2<(ac.length:Int))=true:=decide_eq_true cq14;clear cq14;replace H:=bE H;obtain⟨an,Aq1,H⟩:=H;replace H:=bE H;obtain⟨t663,Aq2,H⟩:=H;have pq2:0≤(xq2:Int):=DT;have qq1:xq2<(ac.length:Int):=DT;obtain⟨ay,eq1,aP,aO⟩:=at_T96 ar.out xq2 pq2 qq1;cases eq1;replace aP:=(HB.out.cell (World.block_lt_of_cell? w _ aP)).trans aP;replace aO:=(HB.out.cell (World.block_lt_of_cell? w _ aO)).trans aO;replace pq2:=eq_true pq2;replace qq1:=eq_true qq1;go_wp2_with (first|(refine g_D 6 ?_;(try (refine gate_guard (by rfl) ?_;dsimp only));refine gBx 6 #[.int .i64 0,.int .i64 0] 96 ?_;intro ao hg wq3 hbox hb;have ae:=aM (hbox);have GWq3:=gW HB hg;have GEq3:=gW HB hg;obtain⟨NBq3,NBq4⟩:=nB ab hg;obtain⟨NBq5,NBq6⟩:=nB aa hg;replace ab:=mB ab hb;replace aa:=mB aa hb;replace HB:=bS HB hb;clear hb hbox hg;obtain⟨hnbq2,hncq2⟩:=oB NBq4;obtain⟨hnbq3,hncq3⟩:=oB NBq6;obtain⟨hczq5,hczq6⟩:=cz2 ae.out;obtain⟨hfzq5,hfzq6⟩:=fz2 ae.out;obtain⟨hnbq4,hncq4⟩:=oB NBq2;obtain⟨hczq7,hczq8⟩:=cz2 aa.out;obtain⟨hfzq7,hfzq8⟩:=fz2 aa.out;obtain⟨hczq9,hczq10,hczq11,hczq12⟩:=cz4 ab.out;obtain⟨hfzq9,hfzq10,hfzq11,hfzq12⟩:=fz4 ab.out)|(refine g_C 95 ?_;refine g_D 44 ?_;generalize hG_:wpList _ _ _ _ _ _=G_))
       subst hG_
       by_cases aJ:t663=true
       ·subst aJ;replace H:=ifT H;replace H:=bE H;obtain⟨⟨tq1,tq2⟩,Aq3,H⟩:=H;dsimp only at H
        by_cases ap:(!(tq1==((rd_T96 ac xq2).f0))||(!(tq2==((rd_T96 ac xq2).f1))))=true
        ·rw[if_pos ap] at H;have aD:(!(tq1==((rd_T96 ac xq2).f0))||(!(tq2==((rd_T96 ac xq2).f1))))=true:=ap;clear ap;obtain rfl:=o_I H;try go_wp2_with (first|(refine g_C 95 ?_;refine gL (some 44) Tryz.func95 #[.agg #[.int .i64 ad,.slice al aj.length am],.agg #[.int .i64 ah,.int .i64 ag,.int .i64 af,.slice (some ay) ac.length ak],.int .i64 xq2] ?_;(with_reducible refine(impl_Build_block.calls (fun k_=>k_<w.heap.size) _ _ aj ah ag af _ _ ac xq2 an _ ?side1 ?side2 ?side3 Aq1.out).mono ?_);(case side1=>exact Zq27_0);(case side2=>exact Kd.C_below ar.out TB);(case side3=>exact av.out);rintro e wq4 ⟨vq3,rfl,aq,hb⟩;refine⟨_,rfl,?_⟩;have ai:=aM (Kd.V_lower (Kd.V_mono (ok':=fun k_=>k_≠aw∧k_≠gbq2∧k_≠ao) aq (fun k_ hk_=>⟨Or.elim hk_ (fun hs_=>fun e_=>Nat.not_le.2 hs_ (by rw[e_];exact GWq1.out)) (fun hn_=>(Kd.freshB (g:=aw) (o:=.cells #[.int .i64 ah,.int .i64 ag,.int .i64 af,.slice (some ay) ac.length ak] 45 (0,0)) (TZ ab) k_ hn_)),Or.elim hk_ (fun hs_=>fun e_=>Nat.not_le.2 hs_ (by rw[e_];exact GWq2.out)) (fun hn_=>(Kd.freshB (g:=gbq2) (o:=.cells #[.int .i64 ad,.slice al aj.length am] 47 (0,0)) (TZ aa) k_ hn_)),Or.elim hk_ (fun hs_=>fun e_=>Nat.not_le.2 hs_ (by rw[e_];exact GWq3.out)) (fun hn_=>(Kd.freshB (g:=ao) (o:=.cells #[.int .i64 ((rd_T96 ac xq2).f0),.int .i64 ((rd_T96 ac xq2).f1)] 96 (0,0)) (blk_put (blk_put (cs:=#[.int .i64 0,.int .i64 0]) (TZ ae) 0 _ rfl) 1 _ rfl) k_ hn_))⟩)) (below_size TB));replace ab:=mB ab hb;replace aa:=mB aa hb;replace ae:=aM (blk_below (g:=ao) (o:=.cells #[.int .i64 ((rd_T96 ac xq2).f0),.int .i64 ((rd_T96 ac xq2).f1)] 96 (0,0)) (blk_put (blk_put (cs:=#[.int .i64 0,.int .i64 0]) (TZ ae) 0 _ rfl) 1 _ rfl) hb);replace HB:=bS HB hb;clear aq hb))
         replace ai:=aM (Kd.V_drew ai.out);replace ab:=bD ab;replace aa:=bD aa;replace ae:=bD ae;replace HB:=aM (below_drew1 HB.out);refine st_ (n:=21) (ds:=[]) (Array.replicate 21 false) (hJ2 aa.out (hK2 ae.out)) (by kernel_rfl) rfl rfl (fun hHeld=>?_);refine with_tabW impl_BuildOk.tab7 impl_BuildOk.bits7 (fun HT_ HW_=>?_);generalize wq4.drew=wq5 at ai ab aa ae HB hHeld ⊢;refine ppq 0 45 ?_;refine ppq 2 47 ?_;refine ptq 1 46 ?_;refine poq 3 48 (fun K hK=>?_);refine gG Tryz.func96 #[.int .i64 ad,.int .i64 xq2] ?_;with_reducible refine(impl_InSet.calls Aq2.out).mono ?_
         rintro e w' ⟨rfl,⟨nd,rfl⟩⟩;refine⟨_,rfl,?_⟩;obtain⟨aE,aF,az⟩:=Kd.V_slice ai.out;(first|subst az|(injection az with f1_ f2_ f3_;have f4_:=f1_.symm;have f5_:=f3_.symm;clear f1_ f2_ f3_;subst f4_;subst f5_));refine hK.out _ _ (cJ2 aa.out (cK2 ae.out)) (fun hHeld=>?_);clear hK K;refine nR ?_;refine ppq 4 49 ?_;refine ppq 5 50 ?_;refine ptq 7 52 ?_;refine poq 6 51 (fun K hK=>?_);refine gG Tryz.func97 #[.slice aE an.length aF] ?_;with_reducible refine(impl_SumOf.calls ?side1 ?side2 Aq3.out).mono ?_
         (case side1=>have X_:=(Kd.V_reads' ai.out).2.2;exact TC);(case side2=>exact(Kd.V_reads' ai.out).2.1);rintro e wq6 ⟨rfl,hb⟩;refine⟨_,rfl,?_⟩;replace ai:=aM (Kd.V_below (by (with_reducible repeat (first|apply Kd.V_alloc|apply Kd.V_drewN|apply Kd.V_drew));exact ai.out) hb);replace ab:=mB ab hb;replace aa:=mB aa hb;replace ae:=mB ae hb;replace HB:=bS HB hb;(try clear hb);refine hK.out _ _ (cJ2 aa.out (cK2 ae.out)) (fun hHeld=>?_);clear hK K;refine nR ?_;refine ppq 8 53 ?_;refine ppq 9 54 ?_;refine ppq 10 55 ?_;refine pxq 11 56 ?_;refine pxq 12 57 ?_;refine pxq 13 58 ?_;refine pxq 14 59 ?_;refine pxq 15 60 ?_;refine pxq 16 61 ?_;refine pxq 17 62 ?_;refine pxq 18 63 ?_;refine pxq 19 64 ?_;refine ppq 20 65 ?_;refine done_ (done_of HT_.out (by kernel_rfl)) ?_;try go_wp2
         go_ret
         exact⟨TE,TB⟩
        ·rw[if_neg ap] at H;have aD:(!(tq1==((rd_T96 ac xq2).f0))||(!(tq2==((rd_T96 ac xq2).f1))))=false:=by simpa using ap
         clear ap;replace H:=bE H;obtain⟨t666,Aq4,H⟩:=H;try go_wp2_with (first|(refine g_C 95 ?_;refine gL (some 44) Tryz.func95 #[.agg #[.int .i64 ad,.slice al aj.length am],.agg #[.int .i64 ah,.int .i64 ag,.int .i64 af,.slice (some ay) ac.length ak],.int .i64 xq2] ?_;(with_reducible refine(impl_Build_block.calls (fun k_=>k_<w.heap.size) _ _ aj ah ag af _ _ ac xq2 an _ ?side1 ?side2 ?side3 Aq1.out).mono ?_);(case side1=>exact Zq27_0);(case side2=>exact Kd.C_below ar.out TB);(case side3=>exact av.out);rintro e wq4 ⟨vq3,rfl,aq,hb⟩;refine⟨_,rfl,?_⟩;have ai:=aM (Kd.V_lower (Kd.V_mono (ok':=fun k_=>k_≠aw∧k_≠gbq2∧k_≠ao) aq (fun k_ hk_=>⟨Or.elim hk_ (fun hs_=>fun e_=>Nat.not_le.2 hs_ (by rw[e_];exact GWq1.out)) (fun hn_=>(Kd.freshB (g:=aw) (o:=.cells #[.int .i64 ah,.int .i64 ag,.int .i64 af,.slice (some ay) ac.length ak] 45 (0,0)) (TZ ab) k_ hn_)),Or.elim hk_ (fun hs_=>fun e_=>Nat.not_le.2 hs_ (by rw[e_];exact GWq2.out)) (fun hn_=>(Kd.freshB (g:=gbq2) (o:=.cells #[.int .i64 ad,.slice al aj.length am] 47 (0,0)) (TZ aa) k_ hn_)),Or.elim hk_ (fun hs_=>fun e_=>Nat.not_le.2 hs_ (by rw[e_];exact GWq3.out)) (fun hn_=>(Kd.freshB (g:=ao) (o:=.cells #[.int .i64 ((rd_T96 ac xq2).f0),.int .i64 ((rd_T96 ac xq2).f1)] 96 (0,0)) (blk_put (blk_put (cs:=#[.int .i64 0,.int .i64 0]) (TZ ae) 0 _ rfl) 1 _ rfl) k_ hn_))⟩)) (below_size TB));replace ab:=mB ab hb;replace aa:=mB aa hb;replace ae:=aM (blk_below (g:=ao) (o:=.cells #[.int .i64 ((rd_T96 ac xq2).f0),.int .i64 ((rd_T96 ac xq2).f1)] 96 (0,0)) (blk_put (blk_put (cs:=#[.int .i64 0,.int .i64 0]) (TZ ae) 0 _ rfl) 1 _ rfl) hb);replace HB:=bS HB hb;clear aq hb))
         replace ai:=aM (Kd.V_drew ai.out);replace ab:=bD ab;replace aa:=bD aa;replace ae:=bD ae;replace HB:=aM (below_drew1 HB.out);refine st_ (n:=21) (ds:=[]) (Array.replicate 21 false) (hJ2 aa.out (hK2 ae.out)) (by kernel_rfl) rfl rfl (fun hHeld=>?_);refine with_tabW impl_BuildOk.tab7 impl_BuildOk.bits7 (fun HT_ HW_=>?_);generalize wq4.drew=wq5 at ai ab aa ae HB hHeld ⊢;refine ppq 0 45 ?_;refine ppq 2 47 ?_;refine ptq 1 46 ?_;refine poq 3 48 (fun K hK=>?_);refine gG Tryz.func96 #[.int .i64 ad,.int .i64 xq2] ?_;with_reducible refine(impl_InSet.calls Aq2.out).mono ?_
         rintro e w' ⟨rfl,⟨nd,rfl⟩⟩;refine⟨_,rfl,?_⟩;obtain⟨aE,aF,az⟩:=Kd.V_slice ai.out;(first|subst az|(injection az with f1_ f2_ f3_;have f4_:=f1_.symm;have f5_:=f3_.symm;clear f1_ f2_ f3_;subst f4_;subst f5_));refine hK.out _ _ (cJ2 aa.out (cK2 ae.out)) (fun hHeld=>?_);clear hK K;refine nR ?_;refine ppq 4 49 ?_;refine ppq 5 50 ?_;refine ptq 7 52 ?_;refine poq 6 51 (fun K hK=>?_);refine gG Tryz.func97 #[.slice aE an.length aF] ?_;with_reducible refine(impl_SumOf.calls ?side1 ?side2 Aq3.out).mono ?_
         (case side1=>have X_:=(Kd.V_reads' ai.out).2.2;exact TC);(case side2=>exact(Kd.V_reads' ai.out).2.1);rintro e wq6 ⟨rfl,hb⟩;refine⟨_,rfl,?_⟩;replace ai:=aM (Kd.V_below (by (with_reducible repeat (first|apply Kd.V_alloc|apply Kd.V_drewN|apply Kd.V_drew));exact ai.out) hb);replace ab:=mB ab hb;replace aa:=mB aa hb;replace ae:=mB ae hb;replace HB:=bS HB hb;(try clear hb);refine hK.out _ _ (cJ2 aa.out (cK2 ae.out)) (fun hHeld=>?_);clear hK K;refine nR ?_;refine ppq 8 53 ?_;refine ppq 9 54 ?_;refine ppq 10 55 ?_;refine ppq 11 56 ?_;refine ppq 13 58 ?_;refine ptq 12 57 ?_;refine poq 14 59 (fun K hK=>?_);refine gG Tryz.func96 #[.int .i64 ad,.int .i64 xq2] ?_;with_reducible refine(impl_InSet.calls Aq4.out).mono ?_
         rintro e w' ⟨rfl,⟨nd,rfl⟩⟩;refine⟨_,rfl,?_⟩;refine hK.out _ _ (cJ2 aa.out (cK2 ae.out)) (fun hHeld=>?_);clear hK K;refine nR ?_;refine ppq 15 60 ?_;refine ppq 16 61 ?_
         by_cases aH:t666=true
         ·subst aH;replace H:=ifT H;have H':=aM H;clear H;refine pxq 17 62 ?_;refine pxq 18 63 ?_;refine ppq 19 64 ?_;refine ppq 20 65 ?_;refine done_ (done_of HT_.out (by kernel_rfl)) ?_;exact Yq27_1
         ·replace aH:=b_F aH;subst aH;replace H:=ifF H;replace H:=bE H;obtain⟨t667,Aq5,H⟩:=H;refine ppq 17 62 ?_;refine poq 18 63 (fun K hK=>?_);refine gG Tryz.func98 #[.slice aE an.length aF,.func (.func 99) #[] #[]] ?_;with_reducible refine(slices_ContainsFunc_byte_byte.calls ?side1 ?side2 Aq5.out).mono ?_
          (case side1=>have X_:=(Kd.V_reads' ai.out).2.2;exact TC);(case side2=>exact(Kd.V_reads' ai.out).2.1);rintro e w' ⟨rfl,⟨nd,rfl⟩⟩;refine⟨_,rfl,?_⟩;refine hK.out _ _ (cJ2 aa.out (cK2 ae.out)) (fun hHeld=>?_);clear hK K;refine nR ?_;refine ppq 19 64 ?_;refine ppq 20 65 ?_;refine done_ (done_of HT_.out (by kernel_rfl)) ?_
          by_cases aK:t667=true
          ·subst aK;replace H:=ifT H;obtain rfl:=o_I H;try go_wp2
           go_ret
           exact⟨TE,TB⟩
          ·replace aK:=b_F aK;subst aK;replace H:=ifF H;have H':=aM H;clear H;exact Yq27_1
       ·replace aJ:=b_F aJ;subst aJ;replace H:=ifF H;replace H:=bE H;obtain⟨t668,Aq3,H⟩:=H
        by_cases ap:t668=true
        ·subst ap;replace H:=ifT H;have H':=aM H;clear H;try go_wp2_with (first|(refine g_C 95 ?_;refine gL (some 44) Tryz.func95 #[.agg #[.int .i64 ad,.slice al aj.length am],.agg #[.int .i64 ah,.int .i64 ag,.int .i64 af,.slice (some ay) ac.length ak],.int .i64 xq2] ?_;(with_reducible refine(impl_Build_block.calls (fun k_=>k_<w.heap.size) _ _ aj ah ag af _ _ ac xq2 an _ ?side1 ?side2 ?side3 Aq1.out).mono ?_);(case side1=>exact Zq27_0);(case side2=>exact Kd.C_below ar.out TB);(case side3=>exact av.out);rintro e wq4 ⟨vq3,rfl,aq,hb⟩;refine⟨_,rfl,?_⟩;have ai:=aM (Kd.V_lower (Kd.V_mono (ok':=fun k_=>k_≠aw∧k_≠gbq2∧k_≠ao) aq (fun k_ hk_=>⟨Or.elim hk_ (fun hs_=>fun e_=>Nat.not_le.2 hs_ (by rw[e_];exact GWq1.out)) (fun hn_=>(Kd.freshB (g:=aw) (o:=.cells #[.int .i64 ah,.int .i64 ag,.int .i64 af,.slice (some ay) ac.length ak] 45 (0,0)) (TZ ab) k_ hn_)),Or.elim hk_ (fun hs_=>fun e_=>Nat.not_le.2 hs_ (by rw[e_];exact GWq2.out)) (fun hn_=>(Kd.freshB (g:=gbq2) (o:=.cells #[.int .i64 ad,.slice al aj.length am] 47 (0,0)) (TZ aa) k_ hn_)),Or.elim hk_ (fun hs_=>fun e_=>Nat.not_le.2 hs_ (by rw[e_];exact GWq3.out)) (fun hn_=>(Kd.freshB (g:=ao) (o:=.cells #[.int .i64 ((rd_T96 ac xq2).f0),.int .i64 ((rd_T96 ac xq2).f1)] 96 (0,0)) (blk_put (blk_put (cs:=#[.int .i64 0,.int .i64 0]) (TZ ae) 0 _ rfl) 1 _ rfl) k_ hn_))⟩)) (below_size TB));replace ab:=mB ab hb;replace aa:=mB aa hb;replace ae:=aM (blk_below (g:=ao) (o:=.cells #[.int .i64 ((rd_T96 ac xq2).f0),.int .i64 ((rd_T96 ac xq2).f1)] 96 (0,0)) (blk_put (blk_put (cs:=#[.int .i64 0,.int .i64 0]) (TZ ae) 0 _ rfl) 1 _ rfl) hb);replace HB:=bS HB hb;clear aq hb))
         replace ai:=aM (Kd.V_drew ai.out);replace ab:=bD ab;replace aa:=bD aa;replace ae:=bD ae;replace HB:=aM (below_drew1 HB.out);refine st_ (n:=21) (ds:=[]) (Array.replicate 21 false) (hK2 aa.out) (by kernel_rfl) rfl rfl (fun hHeld=>?_);refine with_tabW impl_BuildOk.tab7 impl_BuildOk.bits7 (fun HT_ HW_=>?_);generalize wq4.drew=wq5 at ai ab aa ae HB hHeld ⊢;refine ppq 0 45 ?_;refine ppq 2 47 ?_;refine ptq 1 46 ?_;refine poq 3 48 (fun K hK=>?_);refine gG Tryz.func96 #[.int .i64 ad,.int .i64 xq2] ?_;with_reducible refine(impl_InSet.calls Aq2.out).mono ?_
         rintro e w' ⟨rfl,⟨nd,rfl⟩⟩;refine⟨_,rfl,?_⟩;refine hK.out _ _ (cz2 aa.out) (fun hHeld=>?_);clear hK K;refine nR ?_;refine ppq 4 49 ?_;refine pxq 5 50 ?_;refine pxq 6 51 ?_;refine pxq 7 52 ?_;refine pxq 8 53 ?_;refine ppq 9 54 ?_;refine ppq 10 55 ?_;refine ppq 11 56 ?_;refine ppq 13 58 ?_;refine ptq 12 57 ?_;refine poq 14 59 (fun K hK=>?_);refine gG Tryz.func96 #[.int .i64 ad,.int .i64 xq2] ?_;with_reducible refine(impl_InSet.calls Aq3.out).mono ?_
         rintro e w' ⟨rfl,⟨nd,rfl⟩⟩;refine⟨_,rfl,?_⟩;refine hK.out _ _ (cz2 aa.out) (fun hHeld=>?_);clear hK K;refine nR ?_;refine ppq 15 60 ?_;refine ppq 16 61 ?_;refine pxq 17 62 ?_;refine pxq 18 63 ?_;refine ppq 19 64 ?_;refine ppq 20 65 ?_;refine done_ (done_of HT_.out (by kernel_rfl)) ?_;exact Yq27_1
        ·replace ap:=b_F ap;subst ap;replace H:=ifF H;replace H:=bE H;obtain⟨t669,Aq4,H⟩:=H;try go_wp2_with (first|(refine g_C 95 ?_;refine gL (some 44) Tryz.func95 #[.agg #[.int .i64 ad,.slice al aj.length am],.agg #[.int .i64 ah,.int .i64 ag,.int .i64 af,.slice (some ay) ac.length ak],.int .i64 xq2] ?_;(with_reducible refine(impl_Build_block.calls (fun k_=>k_<w.heap.size) _ _ aj ah ag af _ _ ac xq2 an _ ?side1 ?side2 ?side3 Aq1.out).mono ?_);(case side1=>exact Zq27_0);(case side2=>exact Kd.C_below ar.out TB);(case side3=>exact av.out);rintro e wq4 ⟨vq3,rfl,aq,hb⟩;refine⟨_,rfl,?_⟩;have ai:=aM (Kd.V_lower (Kd.V_mono (ok':=fun k_=>k_≠aw∧k_≠gbq2∧k_≠ao) aq (fun k_ hk_=>⟨Or.elim hk_ (fun hs_=>fun e_=>Nat.not_le.2 hs_ (by rw[e_];exact GWq1.out)) (fun hn_=>(Kd.freshB (g:=aw) (o:=.cells #[.int .i64 ah,.int .i64 ag,.int .i64 af,.slice (some ay) ac.length ak] 45 (0,0)) (TZ ab) k_ hn_)),Or.elim hk_ (fun hs_=>fun e_=>Nat.not_le.2 hs_ (by rw[e_];exact GWq2.out)) (fun hn_=>(Kd.freshB (g:=gbq2) (o:=.cells #[.int .i64 ad,.slice al aj.length am] 47 (0,0)) (TZ aa) k_ hn_)),Or.elim hk_ (fun hs_=>fun e_=>Nat.not_le.2 hs_ (by rw[e_];exact GWq3.out)) (fun hn_=>(Kd.freshB (g:=ao) (o:=.cells #[.int .i64 ((rd_T96 ac xq2).f0),.int .i64 ((rd_T96 ac xq2).f1)] 96 (0,0)) (blk_put (blk_put (cs:=#[.int .i64 0,.int .i64 0]) (TZ ae) 0 _ rfl) 1 _ rfl) k_ hn_))⟩)) (below_size TB));replace ab:=mB ab hb;replace aa:=mB aa hb;replace ae:=aM (blk_below (g:=ao) (o:=.cells #[.int .i64 ((rd_T96 ac xq2).f0),.int .i64 ((rd_T96 ac xq2).f1)] 96 (0,0)) (blk_put (blk_put (cs:=#[.int .i64 0,.int .i64 0]) (TZ ae) 0 _ rfl) 1 _ rfl) hb);replace HB:=bS HB hb;clear aq hb))
         replace ai:=aM (Kd.V_drew ai.out);replace ab:=bD ab;replace aa:=bD aa;replace ae:=bD ae;replace HB:=aM (below_drew1 HB.out);refine st_ (n:=21) (ds:=[]) (Array.replicate 21 false) (hK2 aa.out) (by kernel_rfl) rfl rfl (fun hHeld=>?_);refine with_tabW impl_BuildOk.tab7 impl_BuildOk.bits7 (fun HT_ HW_=>?_);generalize wq4.drew=wq5 at ai ab aa ae HB hHeld ⊢;refine ppq 0 45 ?_;refine ppq 2 47 ?_;refine ptq 1 46 ?_;refine poq 3 48 (fun K hK=>?_);refine gG Tryz.func96 #[.int .i64 ad,.int .i64 xq2] ?_;with_reducible refine(impl_InSet.calls Aq2.out).mono ?_
         rintro e w' ⟨rfl,⟨nd,rfl⟩⟩;refine⟨_,rfl,?_⟩;refine hK.out _ _ (cz2 aa.out) (fun hHeld=>?_);clear hK K;refine nR ?_;refine ppq 4 49 ?_;refine pxq 5 50 ?_;refine pxq 6 51 ?_;refine pxq 7 52 ?_;refine pxq 8 53 ?_;refine ppq 9 54 ?_;refine ppq 10 55 ?_;refine ppq 11 56 ?_;refine ppq 13 58 ?_;refine ptq 12 57 ?_;refine poq 14 59 (fun K hK=>?_);refine gG Tryz.func96 #[.int .i64 ad,.int .i64 xq2] ?_;with_reducible refine(impl_InSet.calls Aq3.out).mono ?_
         rintro e w' ⟨rfl,⟨nd,rfl⟩⟩;refine⟨_,rfl,?_⟩;obtain⟨aE,aF,az⟩:=Kd.V_slice ai.out;(first|subst az|(injection az with f1_ f2_ f3_;have f4_:=f1_.symm;have f5_:=f3_.symm;clear f1_ f2_ f3_;subst f4_;subst f5_));refine hK.out _ _ (cz2 aa.out) (fun hHeld=>?_);clear hK K;refine nR ?_;refine ppq 15 60 ?_;refine ppq 16 61 ?_;refine ppq 17 62 ?_;refine poq 18 63 (fun K hK=>?_);refine gG Tryz.func98 #[.slice aE an.length aF,.func (.func 99) #[] #[]] ?_;with_reducible refine(slices_ContainsFunc_byte_byte.calls ?side1 ?side2 Aq4.out).mono ?_
         (case side1=>have X_:=(Kd.V_reads' ai.out).2.2;exact TC);(case side2=>exact(Kd.V_reads' ai.out).2.1);rintro e w' ⟨rfl,⟨nd,rfl⟩⟩;refine⟨_,rfl,?_⟩;refine hK.out _ _ (cz2 aa.out) (fun hHeld=>?_);clear hK K;refine nR ?_;refine ppq 19 64 ?_;refine ppq 20 65 ?_;refine done_ (done_of HT_.out (by kernel_rfl)) ?_
         by_cases aD:t669=true
         ·subst aD;replace H:=ifT H;obtain rfl:=o_I H;try go_wp2
          go_ret
          exact⟨TE,TB⟩
         ·replace aD:=b_F aD;subst aD;replace H:=ifF H;have H':=aM H;clear H;exact Yq27_1
      ·rw[if_neg aG] at H;have cq11:decide (xq2<(ac.length:Int))=false:=decide_eq_false aG;clear aG;obtain rfl:=o_I H;go_wp2
       go_ret
       exact⟨TE,TB⟩
end Go.Proofs.YtjgmkkogmfogbaaGreat.Q
