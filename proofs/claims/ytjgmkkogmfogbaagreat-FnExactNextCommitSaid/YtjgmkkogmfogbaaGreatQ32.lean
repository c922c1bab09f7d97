/- Functions of the program as plain Lean functions, and that a call of each comes to what its function tells. -/
import Derived.Test.YtjgmkkogmfogbaaGreatQ5
import Derived.Test.YtjgmkkogmfogbaaGreatQ27
import Derived.Test.YtjgmkkogmfogbaaGreatQ1
import Derived.Test.YtjgmkkogmfogbaaGreatQ24
set_option maxHeartbeats 40000000
set_option maxRecDepth 100000
namespace Go.Proofs.YtjgmkkogmfogbaaGreat.Q
open Go.RowKit Go.Proofs.YtjgmkkogmfogbaaGreatW.PrintWords Go.Proofs.YtjgmkkogmfogbaaGreatW.PrintLast Go.Proofs.YtjgmkkogmfogbaaGreatW.PrintMore
attribute [local go_sem] min2_int min_two
set_option linter.unusedVariables false
set_option linter.unusedSimpArgs false
def impl_Without.f (a0:Int)(a1:Int):Option (Int):=(impl_SetOk.f a0).bind fun t670=>(if t670=true then ((impl_SetOk.f a1).bind fun t671=>(if t671=true then (some (Go.bits .andNot .i64 a0 a1)) else (some 0))) else (some 0))
theorem impl_Without.calls {a0:Int}{a1:Int}{r:Int}{w:World}(h:impl_Without.f a0 a1=some r):
    Calls Tryz.prog 100 #[.int .i64 a0,.int .i64 a1] w fun e w'=>e=.returned (.int .i64 r)∧Drawn0 w w':=by
  have H:=h
  clear h
  unfold impl_Without.f at H
  replace H:=bE H
  obtain⟨t670,A3,H⟩:=H
  by_cases c4:t670=true
  · subst c4
    replace H:=ifT H
    replace H:=bE H
    obtain⟨t671,A5,H⟩:=H
    by_cases c6:t671=true
    · subst c6
      replace H:=ifT H
      obtain rfl:=o_I H
      go_enter Tryz.func100,Tryz.ntmps100
      go_wp2_with (first|(refine g_C 93 ?_;refine gL (some 6) Tryz.func93 #[.int .i64 a0] ?_;(with_reducible refine(impl_SetOk.calls A3.out).mono ?_);rintro e w' ⟨rfl,⟨nd,rfl⟩⟩;refine⟨_,rfl,?_⟩)|(go_at_call 93;(with_reducible refine(impl_SetOk.calls A5.out).mono ?_);rintro e w' ⟨rfl,⟨nd,rfl⟩⟩))
      go_ret
      exact⟨by first|rfl|(simp;done)|(simp [*];done),TD⟩
    · replace c6:=b_F c6
      subst c6
      replace H:=ifF H
      obtain rfl:=o_I H
      go_enter Tryz.func100,Tryz.ntmps100
      go_wp2_with (first|(refine g_C 93 ?_;refine gL (some 6) Tryz.func93 #[.int .i64 a0] ?_;(with_reducible refine(impl_SetOk.calls A3.out).mono ?_);rintro e w' ⟨rfl,⟨nd,rfl⟩⟩;refine⟨_,rfl,?_⟩)|(go_at_call 93;(with_reducible refine(impl_SetOk.calls A5.out).mono ?_);rintro e w' ⟨rfl,⟨nd,rfl⟩⟩))
      go_ret
      exact⟨by first|rfl|(simp;done)|(simp [*];done),TD⟩
  · replace c4:=b_F c4
    subst c4
    replace H:=ifF H
    obtain rfl:=o_I H
    go_enter Tryz.func100,Tryz.ntmps100
    go_wp2_with (first|(refine g_C 93 ?_;refine gL (some 6) Tryz.func93 #[.int .i64 a0] ?_;(with_reducible refine(impl_SetOk.calls A3.out).mono ?_);rintro e w' ⟨rfl,⟨nd,rfl⟩⟩;refine⟨_,rfl,?_⟩))
    go_ret
    exact⟨by first|rfl|(simp;done)|(simp [*];done),TD⟩
def impl_Missing.f (a0_0:Int)(a0_1:Int)(a0_2:Int)(l0_3:List (S96))(a1_0:Int)(l1_1:List Int):Option (Int):=(impl_AllParts.f a0_0 a0_1 a0_2 l0_3).bind fun t674=>((impl_Without.f t674 a1_0).bind fun t675=>(some t675))
theorem impl_Missing.calls {a0_0:Int}{a0_1:Int}{a0_2:Int}{A0_3:Option Addr}{c0_3:Nat}{l0_3:List (S96)}{a1_0:Int}{A1_1:Option Addr}{c1_1:Nat}{l1_1:List Int}{r:Int}{w:World}(hr0_3:Kd.C k96 w A0_3 l0_3.length l0_3)(hc0_3:l0_3.length≤c0_3)(hr1_1:Kd.C (Kd.int .u8) w A1_1 l1_1.length l1_1)(hc1_1:l1_1.length≤c1_1)(h:impl_Missing.f a0_0 a0_1 a0_2 l0_3 a1_0 l1_1=some r):
    Calls Tryz.prog 65 #[.agg #[.int .i64 a0_0,.int .i64 a0_1,.int .i64 a0_2,.slice A0_3 l0_3.length c0_3],.agg #[.int .i64 a1_0,.slice A1_1 l1_1.length c1_1]] w fun e w'=>e=.returned (.int .i64 r)∧Below w.heap.size w w':=by
  have hu45:=Tryz.underlying45
  have hu47:=Tryz.underlying47
  have HR0_3:=aM hr0_3
  have HC0_3:=aM hc0_3
  clear hr0_3 hc0_3
  have HR1_1:=aM hr1_1
  have HC1_1:=aM hc1_1
  clear hr1_1 hc1_1
  have HB:=aM (Below.refl w.heap.size w)
  have H:=h
  clear h
  unfold impl_Missing.f at H
  replace H:=bE H
  obtain⟨t674,A3,H⟩:=H
  replace H:=bE H
  obtain⟨t675,A4,H⟩:=H
  obtain rfl:=o_I H
  go_enter Tryz.func65,Tryz.ntmps65
  try go_wp2_with (first|(refine g_D 2 ?_;refine gBx 2 #[.int .i64 a0_0,.int .i64 a0_1,.int .i64 a0_2,.slice A0_3 l0_3.length c0_3] 45 ?_;intro gb672 hg w5 hbox hb;have BK672:=aM (hbox);have GW672:=gW HB hg;have GE672:=gW HB hg;replace HB:=bS HB hb;clear hb hbox hg)|(refine g_D 3 ?_;refine gBx 3 #[.int .i64 a1_0,.slice A1_1 l1_1.length c1_1] 47 ?_;intro gb673 hg w6 hbox hb;have BK673:=aM (hbox);have GW673:=gW HB hg;have GE673:=gW HB hg;obtain⟨NB672_673,NB673_672⟩:=nB BK672 hg;replace BK672:=mB BK672 hb;replace HB:=bS HB hb;clear hb hbox hg))
  replace BK672:=bD BK672
  replace BK673:=bD BK673
  replace HB:=aM (below_drew1 HB.out)
  refine st_ (n:=6) (ds:=[]) (Array.replicate 6 false) (hJ4 BK672.out (hK2 BK673.out)) (by kernel_rfl) rfl rfl (fun hHeld=>?_)
  generalize w6.drew=w7 at BK672 BK673 HB hHeld ⊢
  refine ppq 2 7 ?_
  refine ptq 0 5 ?_
  refine ptq 3 8 ?_
  refine poq 1 6 (fun K hK=>?_)
  refine gG Tryz.func94 #[.agg #[.int .i64 a0_0,.int .i64 a0_1,.int .i64 a0_2,.slice A0_3 l0_3.length c0_3]] ?_
  with_reducible refine(impl_AllParts.calls ?side1 ?side2 A3.out).mono ?_
  (case side1=>have X_:=(Kd.C_below HR0_3.out HB.out);exact TC)
  (case side2=>exact HC0_3.out)
  rintro e w8 ⟨rfl,hb⟩
  refine⟨_,rfl,?_⟩
  replace BK672:=mB BK672 hb
  replace BK673:=mB BK673 hb
  replace HB:=bS HB hb
  (try clear hb)
  (try clear hb2)
  (try clear hk)
  (try clear hi)
  refine hK.out _ _ (cJ4 BK672.out (cK2 BK673.out)) (fun hHeld=>?_)
  clear hK K
  refine nR ?_
  refine poq 4 9 (fun K hK=>?_)
  refine gG Tryz.func100 #[.int .i64 t674,.int .i64 a1_0] ?_
  with_reducible refine(impl_Without.calls A4.out).mono ?_
  rintro e w' ⟨rfl,⟨nd,rfl⟩⟩
  refine⟨_,rfl,?_⟩
  refine hK.out _ _ (cJ4 BK672.out (cK2 BK673.out)) (fun hHeld=>?_)
  clear hK K
  refine nR ?_
  refine ppq 5 4 ?_
  refine done_ (by kernel_rfl) ?_
  try go_wp2
  go_ret
  exact⟨TE,TB⟩
def impl_Whole.f (k:Nat)(a0_0:Int)(a0_1:Int)(a0_2:Int)(l0_3:List (S96))(a1_0:Int)(l1_1:List Int):Option (Bool):=if a0_0=0 then (some false) else ((impl_BuildOk.f k a0_0 a0_1 a0_2 l0_3 a1_0 l1_1).bind fun t678=>(if t678=true then ((impl_Missing.f a0_0 a0_1 a0_2 l0_3 a1_0 l1_1).bind fun t679=>(some (t679==0))) else (some false)))
theorem impl_Whole.mono :∀a0 a1 a2 a3 a4 a5 k,LeO (impl_Whole.f k a0 a1 a2 a3 a4 a5) (impl_Whole.f (k+1) a0 a1 a2 a3 a4 a5):=by
  intro a0 a1 a2 a3 a4 a5 k;have m0_:=@impl_BuildOk.mono;unfold impl_Whole.f;exact LM
theorem impl_Whole.calls {k:Nat}{a0_0:Int}{a0_1:Int}{a0_2:Int}{A0_3:Option Addr}{c0_3:Nat}{l0_3:List (S96)}{a1_0:Int}{A1_1:Option Addr}{c1_1:Nat}{l1_1:List Int}{r:Bool}{w:World}(hr0_3:Kd.C k96 w A0_3 l0_3.length l0_3)(hc0_3:l0_3.length≤c0_3)(hr1_1:Kd.C (Kd.int .u8) w A1_1 l1_1.length l1_1)(hc1_1:l1_1.length≤c1_1)(h:impl_Whole.f k a0_0 a0_1 a0_2 l0_3 a1_0 l1_1=some r):
    Calls Tryz.prog 35 #[.agg #[.int .i64 a0_0,.int .i64 a0_1,.int .i64 a0_2,.slice A0_3 l0_3.length c0_3],.agg #[.int .i64 a1_0,.slice A1_1 l1_1.length c1_1]] w fun e w'=>e=.returned (.bool r)∧Below w.heap.size w w':=by
  have hu45:=Tryz.underlying45
  have hu47:=Tryz.underlying47
  have HR0_3:=aM hr0_3
  have HC0_3:=aM hc0_3
  clear hr0_3 hc0_3
  have HR1_1:=aM hr1_1
  have HC1_1:=aM hc1_1
  clear hr1_1 hc1_1
  have HB:=aM (Below.refl w.heap.size w)
  have H:=h
  clear h
  unfold impl_Whole.f at H
  by_cases c3:a0_0=0
  · rw[if_pos c3] at H
    have c3b0:(a0_0==0)=true:=beq_iff_eq.mpr c3
    have c3b1:(a0_0 != 0)=false:=bne_eq_false_iff_eq.mpr c3
    clear c3
    obtain rfl:=o_I H
    go_enter Tryz.func35,Tryz.ntmps35
    go_wp2_with (first|(refine g_D 2 ?_;refine gBx 2 #[.int .i64 a0_0,.int .i64 a0_1,.int .i64 a0_2,.slice A0_3 l0_3.length c0_3] 45 ?_;intro gb676 hg w4 hbox hb;have BK676:=aM (hbox);have GW676:=gW HB hg;have GE676:=gW HB hg;replace HB:=bS HB hb;clear hb hbox hg)|(refine g_D 3 ?_;refine gBx 3 #[.int .i64 a1_0,.slice A1_1 l1_1.length c1_1] 47 ?_;intro gb677 hg w5 hbox hb;have BK677:=aM (hbox);have GW677:=gW HB hg;have GE677:=gW HB hg;obtain⟨NB676_677,NB677_676⟩:=nB BK676 hg;replace BK676:=mB BK676 hb;replace HB:=bS HB hb;clear hb hbox hg;obtain⟨hnb6,hnc6⟩:=oB NB676_677;obtain⟨hcz7_0,hcz7_1,hcz7_2,hcz7_3⟩:=cz4 BK676.out;obtain⟨hfz7_0,hfz7_1,hfz7_2,hfz7_3⟩:=fz4 BK676.out))
    go_ret
    exact⟨TE,TB⟩
  · rw[if_neg c3] at H
    have c3b0:(a0_0==0)=false:=beq_eq_false_iff_ne.mpr c3
    have c3b1:(a0_0 != 0)=true:=bne_iff_ne.mpr c3
    replace H:=bE H
    obtain⟨t678,A8,H⟩:=H
    by_cases c9:t678=true
    · subst c9
      replace H:=ifT H
      replace H:=bE H
      obtain⟨t679,A10,H⟩:=H
      obtain rfl:=o_I H
      go_enter Tryz.func35,Tryz.ntmps35
      go_wp2_with (first|(refine g_D 2 ?_;refine gBx 2 #[.int .i64 a0_0,.int .i64 a0_1,.int .i64 a0_2,.slice A0_3 l0_3.length c0_3] 45 ?_;intro gb676 hg w11 hbox hb;have BK676:=aM (hbox);have GW676:=gW HB hg;have GE676:=gW HB hg;replace HB:=bS HB hb;clear hb hbox hg)|(refine g_D 3 ?_;refine gBx 3 #[.int .i64 a1_0,.slice A1_1 l1_1.length c1_1] 47 ?_;intro gb677 hg w12 hbox hb;have BK677:=aM (hbox);have GW677:=gW HB hg;have GE677:=gW HB hg;obtain⟨NB676_677,NB677_676⟩:=nB BK676 hg;replace BK676:=mB BK676 hb;replace HB:=bS HB hb;clear hb hbox hg;obtain⟨hnb13,hnc13⟩:=oB NB676_677;obtain⟨hcz14_0,hcz14_1,hcz14_2,hcz14_3⟩:=cz4 BK676.out;obtain⟨hfz14_0,hfz14_1,hfz14_2,hfz14_3⟩:=fz4 BK676.out;obtain⟨hcz15_0,hcz15_1⟩:=cz2 BK677.out;obtain⟨hfz15_0,hfz15_1⟩:=fz2 BK677.out)|(go_at_call 64;(with_reducible refine(impl_BuildOk.calls ?side1 ?side2 ?side3 ?side4 A8.out).mono ?_);(case side1=>have X_:=(Kd.C_below HR0_3.out HB.out);exact TC);(case side2=>exact HC0_3.out);(case side3=>have X_:=(Kd.C_below HR1_1.out HB.out);exact TC);(case side4=>exact HC1_1.out);rintro e w16 ⟨rfl,hb⟩;replace BK676:=mB BK676 hb;replace BK677:=mB BK677 hb;replace HB:=bS HB hb;clear hb;obtain⟨hcz17_0,hcz17_1,hcz17_2,hcz17_3⟩:=cz4 BK676.out;obtain⟨hfz17_0,hfz17_1,hfz17_2,hfz17_3⟩:=fz4 BK676.out;obtain⟨hcz18_0,hcz18_1⟩:=cz2 BK677.out;obtain⟨hfz18_0,hfz18_1⟩:=fz2 BK677.out)|(go_at_call 65;(with_reducible refine(impl_Missing.calls ?side1 ?side2 ?side3 ?side4 A10.out).mono ?_);(case side1=>have X_:=(Kd.C_below HR0_3.out HB.out);exact TC);(case side2=>exact HC0_3.out);(case side3=>have X_:=(Kd.C_below HR1_1.out HB.out);exact TC);(case side4=>exact HC1_1.out);rintro e w19 ⟨rfl,hb⟩;replace BK676:=mB BK676 hb;replace BK677:=mB BK677 hb;replace HB:=bS HB hb;clear hb))
      go_ret
      exact⟨TE,TB⟩
    · replace c9:=b_F c9
      subst c9
      replace H:=ifF H
      obtain rfl:=o_I H
      go_enter Tryz.func35,Tryz.ntmps35
      go_wp2_with (first|(refine g_D 2 ?_;refine gBx 2 #[.int .i64 a0_0,.int .i64 a0_1,.int .i64 a0_2,.slice A0_3 l0_3.length c0_3] 45 ?_;intro gb676 hg w20 hbox hb;have BK676:=aM (hbox);have GW676:=gW HB hg;have GE676:=gW HB hg;replace HB:=bS HB hb;clear hb hbox hg)|(refine g_D 3 ?_;refine gBx 3 #[.int .i64 a1_0,.slice A1_1 l1_1.length c1_1] 47 ?_;intro gb677 hg w21 hbox hb;have BK677:=aM (hbox);have GW677:=gW HB hg;have GE677:=gW HB hg;obtain⟨NB676_677,NB677_676⟩:=nB BK676 hg;replace BK676:=mB BK676 hb;replace HB:=bS HB hb;clear hb hbox hg;obtain⟨hnb22,hnc22⟩:=oB NB676_677;obtain⟨hcz23_0,hcz23_1,hcz23_2,hcz23_3⟩:=cz4 BK676.out;obtain⟨hfz23_0,hfz23_1,hfz23_2,hfz23_3⟩:=fz4 BK676.out;obtain⟨hcz24_0,hcz24_1⟩:=cz2 BK677.out;obtain⟨hfz24_0,hfz24_1⟩:=fz2 BK677.out)|(go_at_call 64;(with_reducible refine(impl_BuildOk.calls ?side1 ?side2 ?side3 ?side4 A8.out).mono ?_);(case side1=>have X_:=(Kd.C_below HR0_3.out HB.out);exact TC);(case side2=>exact HC0_3.out);(case side3=>have X_:=(Kd.C_below HR1_1.out HB.out);exact TC);(case side4=>exact HC1_1.out);rintro e w25 ⟨rfl,hb⟩;replace BK676:=mB BK676 hb;replace BK677:=mB BK677 hb;replace HB:=bS HB hb;clear hb))
      go_ret
      exact⟨TE,TB⟩
def impl_Spare.f (l0_0:List Int)(l0_1:List Int)(a0_2:Int)(a0_3:Int)(a0_4:Int)(l0_5:List (S91)):Option (Int):=some (wrap64 (1 - a0_3))
theorem impl_Spare.calls {A0_0:Option Addr}{c0_0:Nat}{l0_0:List Int}{A0_1:Option Addr}{c0_1:Nat}{l0_1:List Int}{a0_2:Int}{a0_3:Int}{a0_4:Int}{A0_5:Option Addr}{c0_5:Nat}{l0_5:List (S91)}{r:Int}{w:World}(hr0_0:Kd.C (Kd.int .u8) w A0_0 l0_0.length l0_0)(hc0_0:l0_0.length≤c0_0)(hr0_1:Kd.C (Kd.int .u8) w A0_1 l0_1.length l0_1)(hc0_1:l0_1.length≤c0_1)(hr0_5:Kd.C k91 w A0_5 l0_5.length l0_5)(hc0_5:l0_5.length≤c0_5)(h:impl_Spare.f l0_0 l0_1 a0_2 a0_3 a0_4 l0_5=some r):
    Calls Tryz.prog 39 #[.agg #[.slice A0_0 l0_0.length c0_0,.slice A0_1 l0_1.length c0_1,.int .i64 a0_2,.int .i64 a0_3,.int .i64 a0_4,.slice A0_5 l0_5.length c0_5]] w fun e w'=>e=.returned (.int .i64 r)∧Below w.heap.size w w':=by
  have hu39:=Tryz.underlying39
  have HR0_0:=aM hr0_0
  have HC0_0:=aM hc0_0
  clear hr0_0 hc0_0
  have HR0_1:=aM hr0_1
  have HC0_1:=aM hc0_1
  clear hr0_1 hc0_1
  have HR0_5:=aM hr0_5
  have HC0_5:=aM hc0_5
  clear hr0_5 hc0_5
  have HB:=aM (Below.refl w.heap.size w)
  have H:=h
  clear h
  unfold impl_Spare.f at H
  obtain rfl:=o_I H
  go_enter Tryz.func39,Tryz.ntmps39
  go_wp2_with (first|(refine g_D 1 ?_;refine gBx 1 #[.slice A0_0 l0_0.length c0_0,.slice A0_1 l0_1.length c0_1,.int .i64 a0_2,.int .i64 a0_3,.int .i64 a0_4,.slice A0_5 l0_5.length c0_5] 39 ?_;intro gb680 hg w2 hbox hb;have BK680:=aM (hbox);have GW680:=gW HB hg;have GE680:=gW HB hg;replace HB:=bS HB hb;clear hb hbox hg;obtain⟨hcz3_0,hcz3_1,hcz3_2,hcz3_3,hcz3_4,hcz3_5⟩:=cz6 BK680.out;obtain⟨hfz3_0,hfz3_1,hfz3_2,hfz3_3,hfz3_4,hfz3_5⟩:=fz6 BK680.out))
  go_ret
  exact⟨TE,TB⟩
def impl_cloned.f (l0:List Int):Option (List Int):=if l0.length≤140737488355328 then (some l0) else (none)
theorem impl_cloned.calls {A0:Option Addr}{c0:Nat}{l0:List Int}{r:List Int}{w:World}(hr0:Kd.C (Kd.int .u8) w A0 l0.length l0)(hc0:l0.length≤c0)(h:impl_cloned.f l0=some r):
    Calls Tryz.prog 74 #[.slice A0 l0.length c0] w fun e w'=>∃v0_:Value,e=.returned (v0_)∧Kd.R (Kd.int .u8) 5 w' w.heap.size (fun _=>True) v0_ r∧Below w.heap.size w w':=by
  have HR0:=Aside0.mk hr0
  clear hr0 hc0
  unfold impl_cloned.f at h
  by_cases hl:l0.length≤140737488355328
  · rw[if_pos hl] at h
    obtain rfl:=Option.some.inj h
    have HL:=Aside0.mk hl
    clear h hl
    obtain⟨i0,hi,hzz⟩:=Option.map_eq_some_iff.1 info5
    simp only[Prod.mk.injEq] at hzz
    have HZ:=Aside0.mk hzz
    have HI:=Aside0.mk hi
    clear hi hzz
    go_enter Tryz.func74,Tryz.ntmps74
    go_wp2_with (first|(at_make;refine wpList_make_own _ rfl _ _ 22 rfl w.heap.size 5 i0 (.int .u8 0) 1 Tryz.underlying22 HI.out HZ.out.1 HZ.out.2.1 _ _ _ l0.length rfl rfl rfl ?mb ?mm ?ms ?_;(case mb=>rw[HZ.out.2.2];have:=HL.out;omega);(case mm=>have:=HL.out;simp only[maxLen];omega);(case ms=>exact Nat.le_refl _);intro w1 ho hg;have HO:=Aside0.mk (show Kd.R (Kd.int .u8) 5 w1 w.heap.size (fun _=>True) (.slice (some ⟨w.heap.size,0,none⟩) 0 l0.length) [] from⟨fun _ _=>trivial,[],ho,Reps.none _ _⟩);have HB:=Aside0.mk (show Below w.heap.size w w1 from pw_below_grown (Below.refl _ _) none (Nat.le_refl _) hg (by simp));clear ho hg)|((with_reducible refine gate_builtin (b:=.append) (xs:=#[.tmp 5,.tmp 6]) rfl ?_);at_builtin;refine Kd.R_append_rows (Kd.int .u8) (w0:=w) w.heap.size rfl (.tmp 5) (.tmp 6) 22 5 (.int .u8 0) 1 rfl Tryz.underlying22 info5 rfl (by decide) (by omega) (.slice (some ⟨w.heap.size,0,none⟩) 0 l0.length) [] l0 A0 _ _ (fun _=>True) (fun _=>False) rfl rfl ?aO ?aR (fun _ _ h=>h) (fun _ h=>h.elim) ?aF ?aB ?aS ?aL ?_;(case aR=>exact Kd.C_below HR0.out HB.out);(case aB=>exact HB.out);(case aF=>exact(fun _ _=>trivial));(case aO=>exact HO.out);(case aS=>exact below_size HB.out);(case aL=>have:=HL.out;simp only[List.length_nil];omega);intro v2 w2 ho2 hb2 hg2 hat2;have HO2:=Aside0.mk ho2;have HB2:=Aside0.mk hb2;clear HO HB ho2 hb2 hg2 hat2))
    go_ret
    exact⟨_,rfl,by simpa using HO2.out,HB2.out⟩
  · rw[if_neg hl] at h
    cases h
def impl_copyPut.f (a0_0:Int)(a0_1:Int)(l0_2:List Int)(a0_3:Int)(a0_4:Int)(a0_5:Int):Option (Int×Int×List Int×Int×Int×Int):=(impl_cloned.f l0_2).bind fun t683=>(some (a0_0,a0_1,t683,a0_3,a0_4,a0_5))
theorem impl_copyPut.calls {af:Int}{ad:Int}{ab:Option Addr}{ag:Nat}{aa:List Int}{ae:Int}{ac:Int}{ah:Int}{r1:Int}{r2:Int}{r3:List Int}{r4:Int}{r5:Int}{r6:Int}{w:World}(ai:Kd.C (Kd.int .u8) w ab aa.length aa)(aj:aa.length≤ag)(h:impl_copyPut.f af ad aa ae ac ah=some (r1,r2,r3,r4,r5,r6)):
  Calls Tryz.prog 75 #[.agg #[.int .i64 af,.int .i64 ad,.slice ab aa.length ag,.int .i64 ae,.int .i64 ac,.int .i64 ah]] w fun e w'=>∃v2_:Value,e=.returned (.agg #[.int .i64 r1,.int .i64 r2,v2_,.int .i64 r4,.int .i64 r5,.int .i64 r6])∧Kd.R (Kd.int .u8) 5 w' w.heap.size (fun _=>True) v2_ r3∧Below w.heap.size w w':=by
 have huq1:=Tryz.underlying91;have HRq1:=aM ai;have HCq1:=aM aj;clear ai aj;have HB:=aM (Below.refl w.heap.size w);have H:=h;clear h;unfold impl_copyPut.f at H;replace H:=bE H;obtain⟨t683,Aq1,H⟩:=H;simp only[Option.some.injEq,Prod.mk.injEq] at H;obtain⟨rfl,rfl,rfl,rfl,rfl,rfl⟩:=H;go_enter Tryz.func75,Tryz.ntmps75;go_wp2_with (first|(refine g_D 1 ?_;refine gBx 1 #[.int .i64 af,.int .i64 ad,.slice ab aa.length ag,.int .i64 ae,.int .i64 ac,.int .i64 ah] 91 ?_;intro gbq1 hg wq1 hbox hb;have BKq1:=aM (hbox);have GWq1:=gW HB hg;have GEq1:=gW HB hg;replace HB:=bS HB hb;clear hb hbox hg)|(refine g_D 2 ?_;refine gBx 2 #[.int .i64 0,.int .i64 0,.slice none 0 0,.int .i64 0,.int .i64 0,.int .i64 0] 91 ?_;intro gbq2 hg w4 hbox hb;have BKq2:=aM (hbox);have GWq2:=gW HB hg;have GEq2:=gW HB hg;obtain⟨NBq1,NBq2⟩:=nB BKq1 hg;replace BKq1:=mB BKq1 hb;replace HB:=bS HB hb;clear hb hbox hg;obtain⟨hnbq1,hncq1⟩:=oB NBq1;obtain⟨hczq1,hczq2,hczq3,hczq4,hczq5,hczq6⟩:=cz6 BKq1.out;obtain⟨hfzq1,hfzq2,hfzq3,hfzq4,hfzq5,hfzq6⟩:=fz6 BKq1.out)|(refine g_C 74 ?_;refine gL (some 5) Tryz.func74 #[.slice ab aa.length ag] ?_;(with_reducible refine(impl_cloned.calls ?side1 ?side2 Aq1.out).mono ?_);(case side1=>have X_:=(Kd.C_below HRq1.out HB.out);exact TC);(case side2=>exact HCq1.out);rintro e w7 ⟨vq1,rfl,hoq1,hb⟩;refine⟨_,rfl,?_⟩;have HOq1:=aM (Kd.R_lower hoq1 (below_size TB));replace BKq1:=mB BKq1 hb;replace BKq2:=mB BKq2 hb;replace HB:=bS HB hb;clear hoq1 hb;obtain⟨Aoq1,coq1,eoq1⟩:=Kd.R_slice HOq1.out;subst eoq1;obtain⟨hczq7,hczq8,hczq9,hczq10,hczq11,hczq12⟩:=cz6 BKq1.out;obtain⟨hfzq7,hfzq8,hfzq9,hfzq10,hfzq11,hfzq12⟩:=fz6 BKq1.out;obtain⟨hczq13,hczq14,hczq15,hczq16,hczq17,hczq18⟩:=cz6 BKq2.out;obtain⟨hfzq13,hfzq14,hfzq15,hfzq16,hfzq17,hfzq18⟩:=fz6 BKq2.out))
 refine bodyPost_ret (results_cell_row rfl _ _ gbq2 91 #[.int .i64 af,.int .i64 ad,.slice Aoq1 t683.length coq1,.int .i64 ae,.int .i64 ac,.int .i64 ah] (0,0) _ rfl (blk_put (blk_put (blk_put (blk_put (blk_put (blk_put (cs:=#[.int .i64 0,.int .i64 0,.slice none 0 0,.int .i64 0,.int .i64 0,.int .i64 0]) (TZ BKq2) 0 _ rfl) 1 _ rfl) 2 _ rfl) 3 _ rfl) 4 _ rfl) 5 _ rfl) Tryz.underlying91 rfl (by kernel_rfl)) rfl ?_;exact⟨_,TE,by (with_reducible repeat (first|apply Kd.R_alloc|apply Kd.R_drewN|apply Kd.R_drew));exact Kd.R_mono (RK2 (Kd.R_types (Kd.R_types HOq1.out BKq1.out (by decide)) BKq2.out (by decide))) (fun _ hk=>trivial),TB⟩
theorem Zq29_0 {p:Prop}(h:p:=by (with_reducible repeat (first|apply Kd.R_alloc|apply Kd.R_drewN|apply Kd.R_drew));exact Kd.R_mono ag.out (fun _ hk=>hk.2)):p:=h
theorem Zq29_1 {p:Prop}(h:p:=by (with_reducible repeat (first|apply Kd.R_alloc|apply Kd.R_drewN|apply Kd.R_drew));exact Kd.R_mono aH.out (fun _ hk=>hk.2)):p:=h
theorem Zq29_2 {p:Prop}(h:p:=by simp only[putAll,Act.put,List.setIfInBounds_toArray,List.set_cons_zero,List.set_cons_succ]):p:=h
def impl_copyDisk.l0 :Nat→List (S91)→Int→Int→List Int→List Int→Int→Int→Int→List (S91)→Option (List Int×List Int×Int×Int×Int×(List (S91)))
  |0,_,_,_,_,_,_,_,_,_=>none
  |k+1,x16,x17,x18,x695000,x695001,x695002,x695003,x695004,x695005=>if x18<x17 then (if 0≤x18 then (if x18<(x16.length:Int) then ((impl_copyPut.f ((rd_T91 x16 x18).f0) ((rd_T91 x16 x18).f1) ((rd_T91 x16 x18).f2) ((rd_T91 x16 x18).f3.f0) ((rd_T91 x16 x18).f3.f1) ((rd_T91 x16 x18).f3.f2)).bind fun bt697=>(if x695005.length<2199023255552 then (impl_copyDisk.l0 k x16 x17 (wrap64 (x18+1)) x695000 x695001 x695002 x695003 x695004 (x695005++[(⟨bt697.1,bt697.2.1,bt697.2.2.1,(⟨bt697.2.2.2.1,bt697.2.2.2.2.1,bt697.2.2.2.2.2⟩:S36)⟩:S91)])) else (none))) else (none)) else (none)) else (some (x695000,x695001,x695002,x695003,x695004,x695005))
def impl_copyDisk.f (k:Nat)(l0_0:List Int)(l0_1:List Int)(a0_2:Int)(a0_3:Int)(a0_4:Int)(l0_5:List (S91)):Option (List Int×List Int×Int×Int×Int×(List (S91))):=(impl_cloned.f l0_0).bind fun t688=>((impl_cloned.f l0_1).bind fun t691=>(impl_copyDisk.l0 k l0_5 (l0_5.length:Int) 0 t688 t691 a0_2 a0_3 a0_4 ([]:List (S91))))
theorem impl_copyDisk.mono_l :∀k,(∀y0 y1 y2 y3 y4 y5 y6 y7 y8,LeO (impl_copyDisk.l0 k y0 y1 y2 y3 y4 y5 y6 y7 y8) (impl_copyDisk.l0 (k+1) y0 y1 y2 y3 y4 y5 y6 y7 y8))
  |0=>fun _ _ _ _ _ _ _ _ _ r h=>by simp [impl_copyDisk.l0] at h
  | k+1=>by
    have ih0:=impl_copyDisk.mono_l k
    · intro y0 y1 y2 y3 y4 y5 y6 y7 y8
      unfold impl_copyDisk.l0
      exact LM
theorem impl_copyDisk.mono :∀a0 a1 a2 a3 a4 a5 k,LeO (impl_copyDisk.f k a0 a1 a2 a3 a4 a5) (impl_copyDisk.f (k+1) a0 a1 a2 a3 a4 a5):=by
  intro a0 a1 a2 a3 a4 a5 k;have ih0:=impl_copyDisk.mono_l k;unfold impl_copyDisk.f;exact LM
def impl_copyDisk.T1 :Bool×List (List Nat×List Nat):=(true,[([],[]),([0],[0]),([1],[1]),([],[]),([3],[3]),([4,2],[4]),([],[]),([6],[6]),([2,5,7],[2,5,7]),([],[]),([9,8,5,0,1,2,3,4,5,6,7,8,9],[8,9])])
def impl_copyDisk.B1 :List Nat:=[0,1,3,0,8,31,0,64,255,0,1023]
theorem impl_copyDisk.tab1 :rtab .any (opsOf Tryz.f40 1)=impl_copyDisk.T1:=by kernel_rfl
theorem impl_copyDisk.bits1 :waitsOk impl_copyDisk.T1.2 impl_copyDisk.B1=true:=by kernel_rfl
def impl_copyDisk.T5 :Bool×List (List Nat×List Nat):=(true,[([],[]),([0],[0]),([],[]),([2],[2]),([3],[3]),([1,4,3],[1,4]),([0,1,2,3,4,5],[]),([6,5,5,0,1,2,3,4,5],[5,6])])
def impl_copyDisk.B5 :List Nat:=[0,1,0,4,12,31,63,127]
theorem impl_copyDisk.tab5 :rtab .any (opsOf Tryz.f40 5)=impl_copyDisk.T5:=by kernel_rfl
theorem impl_copyDisk.bits5 :waitsOk impl_copyDisk.T5.2 impl_copyDisk.B5=true:=by kernel_rfl
theorem Yq29_0 {p:Prop}(h:p:=by
 refine hK.out _ _ (cz6 ab.out) (fun hHeld=>?_);clear hK K;refine nR ?_;refine pOe 5 (some 11) #[true,true,true,true,true,true,true,true,false,true,false] (fun K hK=>?_);refine gG Tryz.func74 #[.slice ay aj.length az] ?_;with_reducible refine(impl_cloned.calls ?side1 ?side2 Aq2.out).mono ?_
 (case side1=>have X_:=(Kd.C_below bh.out HB.out);exact TC);(case side2=>exact a9.out);rintro e wq6 ⟨vq2,rfl,ap,hb⟩;refine⟨_,rfl,?_⟩;have n0_:=aM (Kd.R_elder' (TRf ag) (Kd.R_base ap) hb);have n1_:=aM (Kd.R_lower (Kd.R_new' ap (Kd.R_lt (TRf ag))) (below_size TB));have n2_:=mB ab hb;have n3_:=mB ad hb;have n4_:=mB ac hb;have n5_:=bS HB hb;clear ag;clear ab;clear ad;clear ac;clear HB;have ag:=n0_;have aH:=n1_;have ab:=n2_;have ad:=n3_;have ac:=n4_;have HB:=n5_;clear n0_ n1_ n2_ n3_ n4_ n5_;(try clear hb);(try clear ap);obtain⟨aw,ax,aK⟩:=Kd.R_slice aH.out;(first|subst aK|(injection aK with f1_ f2_ f3_;have f4_:=f1_.symm;have f5_:=f3_.symm;clear f1_ f2_ f3_;subst f4_;subst f5_));obtain⟨au,av,aJ⟩:=Kd.R_slice ag.out;(first|subst aJ|(injection aJ with f1_ f2_ f3_;have f4_:=f1_.symm;have f5_:=f3_.symm;clear f1_ f2_ f3_;subst f4_;subst f5_));refine hK.out _ _ (cz6 ab.out) (fun hHeld=>?_);clear hK K;refine nR ?_;refine pPe 8 (some 14) #[true,true,true,true,true,true,true,true,true,true,false] ?_;exact norm_ (by exact Zq29_2) (hCont (.slice au ak.length av,.slice aw ah.length ax,ae) _ ⟨hHeld,(by exact Zq29_0),(by exact Zq29_1),TK,TK,TK,aV.out,aW.out,aQ.out,aR.out,aT.out,aN.out,TB⟩)):p:=h
theorem impl_copyDisk.calls {k:Nat}{aA:Option Addr}{aC:Nat}{ao:List Int}{ay:Option Addr}{az:Nat}{aj:List Int}{al:Int}{an:Int}{am:Int}{aI:Option Addr}{aG:Nat}{aa:List (S91)}{r1:List Int}{r2:List Int}{r3:Int}{r4:Int}{r5:Int}{r6:List (S91)}{w:World}(bj:Kd.C (Kd.int .u8) w aA ao.length ao)(bi:ao.length≤aC)(bm:Kd.C (Kd.int .u8) w ay aj.length aj)(bl:aj.length≤az)(bk:Kd.C k91 w aI aa.length aa)(bn:aa.length≤aG)(h:impl_copyDisk.f k ao aj al an am aa=some (r1,r2,r3,r4,r5,r6)):
  Calls Tryz.prog 40 #[.agg #[.slice aA ao.length aC,.slice ay aj.length az,.int .i64 al,.int .i64 an,.int .i64 am,.slice aI aa.length aG]] w fun e w'=>∃v0_ v1_ v5_:Value,e=.returned (.agg #[v0_,v1_,.int .i64 r3,.int .i64 r4,.int .i64 r5,v5_])∧Kd.R (Kd.int .u8) 5 w' w.heap.size (fun k_=>some k_≠(v1_:Value).ownBlock) v0_ r1∧Kd.R (Kd.int .u8) 5 w' w.heap.size (fun k_=>some k_≠(v0_:Value).ownBlock) v1_ r2∧Kd.S k91 91 w' w.heap.size (fun k_=>some k_≠(v0_:Value).ownBlock∧some k_≠(v1_:Value).ownBlock) v5_ r6∧Below w.heap.size w w':=by
 have huq1:=Tryz.underlying39;have huq2:=Tryz.underlying36;have huq3:=Tryz.underlying91;have HRq1:=aM bj;have HCq1:=aM bi;clear bj bi;have bh:=aM bm;have a9:=aM bl;clear bm bl;have HRq3:=aM bk;have HCq3:=aM bn;clear bk bn;have HB:=aM (Below.refl w.heap.size w);have H:=h;clear h;unfold impl_copyDisk.f at H;replace H:=bE H;obtain⟨ak,Aq1,H⟩:=H;replace H:=bE H;obtain⟨ah,Aq2,H⟩:=H;have H':=aM H;clear H;go_enter Tryz.func40,Tryz.ntmps40;try go_wp2_with (first|(refine g_D 1 ?_;refine gBx 1 #[.slice aA ao.length aC,.slice ay aj.length az,.int .i64 al,.int .i64 an,.int .i64 am,.slice aI aa.length aG] 39 ?_;intro af hg wq1 hbox hb;have ab:=aM (hbox);have GWq1:=gW HB hg;have GEq1:=gW HB hg;replace HB:=bS HB hb;clear hb hbox hg)|(refine g_D 2 ?_;refine gBx 2 #[.slice none 0 0,.slice none 0 0,.int .i64 0,.int .i64 0,.int .i64 0,.slice none 0 0] 39 ?_;intro gbq2 hg wq2 hbox hb;have ad:=aM (hbox);have GWq2:=gW HB hg;have GEq2:=gW HB hg;obtain⟨NBq1,NBq2⟩:=nB ab hg;replace ab:=mB ab hb;replace HB:=bS HB hb;clear hb hbox hg))
 replace ab:=bD ab;replace ad:=bD ad;replace HB:=aM (below_drew1 HB.out);refine st_ (n:=11) (ds:=[]) #[false,false,false,false,false,false,false,false,false,false,false] (hK6 ab.out) (by kernel_rfl) rfl rfl (fun hHeld=>?_);refine with_tabW impl_copyDisk.tab1 impl_copyDisk.bits1 (fun HT_ HW_=>?_);generalize wq2.drew=wq3 at ab ad HB hHeld ⊢;refine pPe 0 (some 6) #[true,false,false,false,false,false,false,false,false,false,false] ?_;refine pPe 3 (some 9) #[true,false,false,true,false,false,false,false,false,false,false] ?_;refine pPe 6 (some 12) #[true,false,false,true,false,false,true,false,false,false,false] ?_;refine pTe 1 (some 7) #[true,true,false,true,false,false,true,false,false,false,false] ?_;refine pTe 4 (some 10) #[true,true,false,true,true,false,true,false,false,false,false] ?_;refine pTe 7 (some 13) #[true,true,false,true,true,false,true,true,false,false,false] ?_;refine join_ (σ:=Value×Value×Nat) 1 #[true,true,true,true,true,true,true,true,true,true,false] (fun s_=>[(8,s_.1),(11,s_.2.1),(3,.pointer (some ⟨s_.2.2,0,none⟩)),(14,.agg #[s_.1,s_.2.1,.int .i64 al,.int .i64 an,.int .i64 am,.slice none 0 0])]) (fun s_ w'=>(w'.cell? ⟨af,0,none⟩=some (.slice aA ao.length aC)∧w'.cell? ⟨af,1,none⟩=some (.slice ay aj.length az)∧w'.cell? ⟨af,2,none⟩=some (.int .i64 al)∧w'.cell? ⟨af,3,none⟩=some (.int .i64 an)∧w'.cell? ⟨af,4,none⟩=some (.int .i64 am)∧w'.cell? ⟨af,5,none⟩=some (.slice aI aa.length aG))∧(Kd.R (Kd.int .u8) 5 w' w.heap.size (fun k_=>some k_≠(s_.2.1:Value).ownBlock) s_.1 ak)∧(Kd.R (Kd.int .u8) 5 w' w.heap.size (fun k_=>some k_≠(s_.1:Value).ownBlock) s_.2.1 ah)∧(w'.heap[af]?=some (.cells #[.slice aA ao.length aC,.slice ay aj.length az,.int .i64 al,.int .i64 an,.int .i64 am,.slice aI aa.length aG] 39 (0,0)))∧(w'.heap[gbq2]?=some (.cells #[.slice none 0 0,.slice none 0 0,.int .i64 0,.int .i64 0,.int .i64 0,.slice none 0 0] 39 (0,0)))∧(w'.heap[s_.2.2]?=some (.cells #[.slice none 0 0,.slice none 0 0,.int .i64 0,.int .i64 0,.int .i64 0,.slice none 0 0] 39 (0,0)))∧(w.heap.size≤s_.2.2)∧(w.heap.size≤s_.2.2)∧(af≠s_.2.2)∧(s_.2.2≠af)∧(gbq2≠s_.2.2)∧(s_.2.2≠gbq2)∧(Below w.heap.size w w')) ?_ ?_;rotate_left
 ·intro hCont;refine two_ (i:=2) (j:=9) (Ni:=some 8) (Nj:=some 3) #[true,true,true,true,true,false,true,true,false,false,false] #[true,true,false,true,true,false,true,true,false,true,false] rfl rfl rfl rfl (two_of HT_.out (by kernel_rfl)) (by decide) (by decide) (fun K hK=>?_) (fun K hK=>?_)
  ·skip
   refine gG Tryz.func74 #[.slice aA ao.length aC] ?_;with_reducible refine(impl_cloned.calls ?side1 ?side2 Aq1.out).mono ?_
   (case side1=>have X_:=(Kd.C_below HRq1.out HB.out);exact TC);(case side2=>exact HCq1.out);rintro e wq4 ⟨vq1,rfl,ap,hb⟩;refine⟨_,rfl,?_⟩;replace ag:=aM (Kd.R_lower ap (below_size TB));replace ab:=mB ab hb;replace ad:=mB ad hb;replace HB:=bS HB hb;(try clear hb);(try clear ap);refine hK.out _ _ (cz6 ab.out) (fun hHeld=>?_);clear hK K;refine nR ?_;refine two_ (i:=5) (j:=9) (Ni:=some 11) (Nj:=some 3) #[true,true,true,true,true,true,true,true,false,false,false] #[true,true,true,true,true,false,true,true,false,true,false] rfl rfl rfl rfl (two_of HT_.out (by kernel_rfl)) (by decide) (by decide) (fun K hK=>?_) (fun K hK=>?_)
   ·skip
    refine gG Tryz.func74 #[.slice ay aj.length az] ?_;with_reducible refine(impl_cloned.calls ?side1 ?side2 Aq2.out).mono ?_
    (case side1=>have X_:=(Kd.C_below bh.out HB.out);exact TC);(case side2=>exact a9.out);rintro e wq5 ⟨vq2,rfl,ap,hb⟩;refine⟨_,rfl,?_⟩;have n0_:=aM (Kd.R_elder' (TRf ag) (Kd.R_base ap) hb);have n1_:=aM (Kd.R_lower (Kd.R_new' ap (Kd.R_lt (TRf ag))) (below_size TB));have n2_:=mB ab hb;have n3_:=mB ad hb;have n4_:=bS HB hb;clear ag;clear ab;clear ad;clear HB;have ag:=n0_;have aH:=n1_;have ab:=n2_;have ad:=n3_;have HB:=n4_;clear n0_ n1_ n2_ n3_ n4_;(try clear hb);(try clear ap);obtain⟨aw,ax,aK⟩:=Kd.R_slice aH.out;(first|subst aK|(injection aK with f1_ f2_ f3_;have f4_:=f1_.symm;have f5_:=f3_.symm;clear f1_ f2_ f3_;subst f4_;subst f5_));obtain⟨au,av,aJ⟩:=Kd.R_slice ag.out;(first|subst aJ|(injection aJ with f1_ f2_ f3_;have f4_:=f1_.symm;have f5_:=f3_.symm;clear f1_ f2_ f3_;subst f4_;subst f5_));refine hK.out _ _ (cz6 ab.out) (fun hHeld=>?_);clear hK K;refine nR ?_;refine pPe 8 (some 14) #[true,true,true,true,true,true,true,true,true,false,false] ?_;refine pOe 9 (some 3) #[true,true,true,true,true,true,true,true,true,true,false] (fun K hK=>?_);refine box_step ?hg (N:=3) ?hd (cs:=#[.slice none 0 0,.slice none 0 0,.int .i64 0,.int .i64 0,.int .i64 0,.slice none 0 0]) (t:=39) ?hr ?_;(case hd=>rfl);(case hg=>rfl);(case hr=>first|(go_simp;done)|(go_simp;rfl));intro ae hg wq6 hbox hb;have n0_:=mR ag hb;have n1_:=mR aH hb;have n2_:=mB ab hb;have n3_:=mB ad hb;have n4_:=bS HB hb;have n5_:=aM (hbox);have n6_:=aM ((by rw[hg];exact(below_size TB):w.heap.size≤ae));have n7_:=aM ((by rw[hg];exact(below_size TB):w.heap.size≤ae));have n8_:=aM ((by rw[hg];exact Nat.ne_of_lt (blk_lt (g:=af) (o:=.cells #[.slice aA ao.length aC,.slice ay aj.length az,.int .i64 al,.int .i64 an,.int .i64 am,.slice aI aa.length aG] 39 (0,0)) TK):af≠ae));have n9_:=aM ((by rw[hg];exact Nat.ne_of_gt (blk_lt (g:=af) (o:=.cells #[.slice aA ao.length aC,.slice ay aj.length az,.int .i64 al,.int .i64 an,.int .i64 am,.slice aI aa.length aG] 39 (0,0)) TK):ae≠af));have aY:=aM ((by rw[hg];exact Nat.ne_of_lt (blk_lt (g:=gbq2) (o:=.cells #[.slice none 0 0,.slice none 0 0,.int .i64 0,.int .i64 0,.int .i64 0,.slice none 0 0] 39 (0,0)) TK):gbq2≠ae));have n11_:=aM ((by rw[hg];exact Nat.ne_of_gt (blk_lt (g:=gbq2) (o:=.cells #[.slice none 0 0,.slice none 0 0,.int .i64 0,.int .i64 0,.int .i64 0,.slice none 0 0] 39 (0,0)) TK):ae≠gbq2));clear ag;clear aH;clear ab;clear ad;clear HB;have ag:=n0_;have aH:=n1_;have ab:=n2_;have ad:=n3_;have HB:=n4_;have ac:=n5_;have aV:=n6_;have aW:=n7_;have aQ:=n8_;have aR:=n9_;have aT:=aY;have aN:=n11_;clear n0_ n1_ n2_ n3_ n4_ n5_ n6_ n7_ n8_ n9_ aY n11_;clear hb hbox hg;refine hK.out _ _ (cz6 ab.out) (fun hHeld=>?_);clear hK K;refine nR ?_;exact norm_ (by exact Zq29_2) (hCont (.slice au ak.length av,.slice aw ah.length ax,ae) _ ⟨hHeld,(by exact Zq29_0),(by exact Zq29_1),TK,TK,TK,aV.out,aW.out,aQ.out,aR.out,aT.out,aN.out,TB⟩)
   ·skip
    refine box_step ?hg (N:=3) ?hd (cs:=#[.slice none 0 0,.slice none 0 0,.int .i64 0,.int .i64 0,.int .i64 0,.slice none 0 0]) (t:=39) ?hr ?_;(case hd=>rfl);(case hg=>rfl);(case hr=>first|(go_simp;done)|(go_simp;rfl));intro ae hg wq5 hbox hb;have n0_:=mR ag hb;have n1_:=mB ab hb;have n2_:=mB ad hb;have n3_:=bS HB hb;have n4_:=aM (hbox);have n5_:=aM ((by rw[hg];exact(below_size TB):w.heap.size≤ae));have n6_:=aM ((by rw[hg];exact(below_size TB):w.heap.size≤ae));have n7_:=aM ((by rw[hg];exact Nat.ne_of_lt (blk_lt (g:=af) (o:=.cells #[.slice aA ao.length aC,.slice ay aj.length az,.int .i64 al,.int .i64 an,.int .i64 am,.slice aI aa.length aG] 39 (0,0)) TK):af≠ae));have n8_:=aM ((by rw[hg];exact Nat.ne_of_gt (blk_lt (g:=af) (o:=.cells #[.slice aA ao.length aC,.slice ay aj.length az,.int .i64 al,.int .i64 an,.int .i64 am,.slice aI aa.length aG] 39 (0,0)) TK):ae≠af));have n9_:=aM ((by rw[hg];exact Nat.ne_of_lt (blk_lt (g:=gbq2) (o:=.cells #[.slice none 0 0,.slice none 0 0,.int .i64 0,.int .i64 0,.int .i64 0,.slice none 0 0] 39 (0,0)) TK):gbq2≠ae));have aY:=aM ((by rw[hg];exact Nat.ne_of_gt (blk_lt (g:=gbq2) (o:=.cells #[.slice none 0 0,.slice none 0 0,.int .i64 0,.int .i64 0,.int .i64 0,.slice none 0 0] 39 (0,0)) TK):ae≠gbq2));clear ag;clear ab;clear ad;clear HB;have ag:=n0_;have ab:=n1_;have ad:=n2_;have HB:=n3_;have ac:=n4_;have aV:=n5_;have aW:=n6_;have aQ:=n7_;have aR:=n8_;have aT:=n9_;have aN:=aY;clear n0_ n1_ n2_ n3_ n4_ n5_ n6_ n7_ n8_ n9_ aY;clear hb hbox hg;exact Yq29_0
  ·skip
   refine box_step ?hg (N:=3) ?hd (cs:=#[.slice none 0 0,.slice none 0 0,.int .i64 0,.int .i64 0,.int .i64 0,.slice none 0 0]) (t:=39) ?hr ?_;(case hd=>rfl);(case hg=>rfl);(case hr=>first|(go_simp;done)|(go_simp;rfl));intro ae hg wq4 hbox hb;have n0_:=mB ab hb;have n1_:=mB ad hb;have n2_:=bS HB hb;have n3_:=aM (hbox);have n4_:=aM ((by rw[hg];exact(below_size TB):w.heap.size≤ae));have n5_:=aM ((by rw[hg];exact(below_size TB):w.heap.size≤ae));have n6_:=aM ((by rw[hg];exact Nat.ne_of_lt (blk_lt (g:=af) (o:=.cells #[.slice aA ao.length aC,.slice ay aj.length az,.int .i64 al,.int .i64 an,.int .i64 am,.slice aI aa.length aG] 39 (0,0)) TK):af≠ae));have n7_:=aM ((by rw[hg];exact Nat.ne_of_gt (blk_lt (g:=af) (o:=.cells #[.slice aA ao.length aC,.slice ay aj.length az,.int .i64 al,.int .i64 an,.int .i64 am,.slice aI aa.length aG] 39 (0,0)) TK):ae≠af));have n8_:=aM ((by rw[hg];exact Nat.ne_of_lt (blk_lt (g:=gbq2) (o:=.cells #[.slice none 0 0,.slice none 0 0,.int .i64 0,.int .i64 0,.int .i64 0,.slice none 0 0] 39 (0,0)) TK):gbq2≠ae));have n9_:=aM ((by rw[hg];exact Nat.ne_of_gt (blk_lt (g:=gbq2) (o:=.cells #[.slice none 0 0,.slice none 0 0,.int .i64 0,.int .i64 0,.int .i64 0,.slice none 0 0] 39 (0,0)) TK):ae≠gbq2));clear ab;clear ad;clear HB;have ab:=n0_;have ad:=n1_;have HB:=n2_;have ac:=n3_;have aV:=n4_;have aW:=n5_;have aQ:=n6_;have aR:=n7_;have aT:=n8_;have aN:=n9_;clear n0_ n1_ n2_ n3_ n4_ n5_ n6_ n7_ n8_ n9_;clear hb hbox hg;refine hK.out _ _ (cz6 ab.out) (fun hHeld=>?_);clear hK K;refine nR ?_;refine pOe 2 (some 8) #[true,true,true,true,true,false,true,true,false,true,false] (fun K hK=>?_);refine gG Tryz.func74 #[.slice aA ao.length aC] ?_;with_reducible refine(impl_cloned.calls ?side1 ?side2 Aq1.out).mono ?_
   (case side1=>have X_:=(Kd.C_below HRq1.out HB.out);exact TC);(case side2=>exact HCq1.out);rintro e wq5 ⟨vq1,rfl,ap,hb⟩;refine⟨_,rfl,?_⟩;replace ag:=aM (Kd.R_lower ap (below_size TB));replace ab:=mB ab hb;replace ad:=mB ad hb;replace ac:=mB ac hb;replace HB:=bS HB hb;(try clear hb);(try clear ap);exact Yq29_0
 rintro⟨vq1,vq2,ae⟩ wq4 ⟨hS_,h0_,h1_,h2_,h3_,h4_,h5_,h6_,h7_,h8_,h9_,h10_,h11_⟩;clear ab ad HB;have ag:Aside0 (Kd.R (Kd.int .u8) 5 wq4 w.heap.size (fun k_=>some k_≠(vq2:Value).ownBlock) vq1 ak):=⟨h0_⟩;have aH:Aside0 (Kd.R (Kd.int .u8) 5 wq4 w.heap.size (fun k_=>some k_≠(vq1:Value).ownBlock) vq2 ah):=⟨h1_⟩;have ab:Aside0 (wq4.heap[af]?=some (.cells #[.slice aA ao.length aC,.slice ay aj.length az,.int .i64 al,.int .i64 an,.int .i64 am,.slice aI aa.length aG] 39 (0,0))):=⟨h2_⟩;have ad:Aside0 (wq4.heap[gbq2]?=some (.cells #[.slice none 0 0,.slice none 0 0,.int .i64 0,.int .i64 0,.int .i64 0,.slice none 0 0] 39 (0,0))):=⟨h3_⟩;have ac:Aside0 (wq4.heap[ae]?=some (.cells #[.slice none 0 0,.slice none 0 0,.int .i64 0,.int .i64 0,.int .i64 0,.slice none 0 0] 39 (0,0))):=⟨h4_⟩;have aV:Aside0 (w.heap.size≤ae):=⟨h5_⟩;have aW:Aside0 (w.heap.size≤ae):=⟨h6_⟩;have aQ:Aside0 (af≠ae):=⟨h7_⟩;have aR:Aside0 (ae≠af):=⟨h8_⟩;have aT:Aside0 (gbq2≠ae):=⟨h9_⟩;have aN:Aside0 (ae≠gbq2):=⟨h10_⟩;have HB:Aside0 (Below w.heap.size w wq4):=⟨h11_⟩;clear h0_ h1_ h2_ h3_ h4_ h5_ h6_ h7_ h8_ h9_ h10_ h11_;have hHeld:wq4.cell? ⟨af,0,none⟩=some (.slice aA ao.length aC)∧wq4.cell? ⟨af,1,none⟩=some (.slice ay aj.length az)∧wq4.cell? ⟨af,2,none⟩=some (.int .i64 al)∧wq4.cell? ⟨af,3,none⟩=some (.int .i64 an)∧wq4.cell? ⟨af,4,none⟩=some (.int .i64 am)∧wq4.cell? ⟨af,5,none⟩=some (.slice aI aa.length aG):=hS_;obtain⟨aw,ax,aK⟩:=Kd.R_slice aH.out;(first|subst aK|(injection aK with f1_ f2_ f3_;have f4_:=f1_.symm;have f5_:=f3_.symm;clear f1_ f2_ f3_;subst f4_;subst f5_));obtain⟨au,av,aJ⟩:=Kd.R_slice ag.out;(first|subst aJ|(injection aJ with f1_ f2_ f3_;have f4_:=f1_.symm;have f5_:=f3_.symm;clear f1_ f2_ f3_;subst f4_;subst f5_));refine norm_ (a':=?_) ?_ ?_;rotate_left
 ·simp only[putAll,Act.put,List.setIfInBounds_toArray,List.set_cons_zero,List.set_cons_succ];rfl
 refine pOe 10 none #[true,true,true,true,true,true,true,true,true,true,true] (fun K hK=>?_);have hsq1:wq4.cell? ⟨ae,0,none⟩=some (.slice none 0 0):=bC ac 0;have hfsq1:=blk_frozen ac.out 0;have hnsq1:=aQ.out;have hnsq2:=aT.out;have hmsq1:=aR.out;have hmsq2:=aN.out;have hsq2:wq4.cell? ⟨ae,1,none⟩=some (.slice none 0 0):=bC ac 1;have hfsq2:=blk_frozen ac.out 1;have hsq3:wq4.cell? ⟨ae,2,none⟩=some (.int .i64 0):=bC ac 2;have hfsq3:=blk_frozen ac.out 2;have hsq4:wq4.cell? ⟨ae,3,none⟩=some (.int .i64 0):=bC ac 3;have hfsq4:=blk_frozen ac.out 3;have hsq5:wq4.cell? ⟨ae,4,none⟩=some (.int .i64 0):=bC ac 4;have hfsq5:=blk_frozen ac.out 4;have hsq6:wq4.cell? ⟨ae,5,none⟩=some (.slice none 0 0):=bC ac 5;have hfsq6:=blk_frozen ac.out 5;refine skip_ (w1:=?_) (by rfl) rfl ?_ ?_;rotate_left
 ·go_simp;rfl
 refine hK.out _ _ ⟨(cf hHeld.1),(cf hHeld.2.1),(cf hHeld.2.2.1),(cf hHeld.2.2.2.1),(cf hHeld.2.2.2.2.1),(cf hHeld.2.2.2.2.2)⟩ (fun hHeld=>?_);clear hK K;refine done_ (done_of HT_.out (by kernel_rfl)) ?_;obtain⟨hnbq1,hncq1⟩:=oB NBq1;obtain⟨hnbq2,hncq2⟩:=oB aQ;obtain⟨hczq1,hczq2,hczq3,hczq4,hczq5,hczq6⟩:=cz6 ab.out;obtain⟨hfzq1,hfzq2,hfzq3,hfzq4,hfzq5,hfzq6⟩:=fz6 ab.out;try go_wp2
 go_loopg [18] k (fun kq vq3 w'=>∃(xq1:Int) (xq2:List (S91)) (uq1:Value),vq3=.int .i64 xq1∧Aside0 (impl_copyDisk.l0 kq aa (aa.length:Int) xq1 ak ah al an am xq2=some (r1,r2,r3,r4,r5,r6))∧Aside0 (kq≤k)∧Aside0 (Kd.R (Kd.int .u8) 5 w' w.heap.size (fun k_=>some k_≠((.slice aw ah.length ax):Value).ownBlock) (.slice au ak.length av) ak)∧Aside0 (Kd.R (Kd.int .u8) 5 w' w.heap.size (fun k_=>some k_≠((.slice au ak.length av):Value).ownBlock) (.slice aw ah.length ax) ah)∧Aside0 (Kd.S k91 91 w' w.heap.size (fun k_=>some k_≠((.slice au ak.length av):Value).ownBlock∧some k_≠((.slice aw ah.length ax):Value).ownBlock) uq1 xq2)∧Aside0 (w'.heap[af]?=some (.cells #[(.slice aA ao.length aC),(.slice ay aj.length az),.int .i64 al,.int .i64 an,.int .i64 am,(.slice aI aa.length aG)] 39 (0,0)))∧Aside0 (w'.heap[gbq2]?=some (.cells #[(.slice none 0 0),(.slice none 0 0),.int .i64 0,.int .i64 0,.int .i64 0,(.slice none 0 0)] 39 (0,0)))∧Aside0 (w'.heap[ae]?=some (.cells #[(.slice au ak.length av),(.slice aw ah.length ax),.int .i64 al,.int .i64 an,.int .i64 am,uq1] 39 (0,0)))∧Aside0 (Below w.heap.size w w'))
 case atStart=>exact⟨(0),(([]:List (S91))),(.slice none 0 0),TF,H',⟨Nat.le_refl _⟩,⟨by (with_reducible repeat (first|apply Kd.R_alloc|apply Kd.R_drewN|apply Kd.R_drew));exact Kd.R_mono (RK1 (Kd.R_types ag.out ac.out (by decide))) (fun _ hk=>hk.1)⟩,⟨by (with_reducible repeat (first|apply Kd.R_alloc|apply Kd.R_drewN|apply Kd.R_drew));exact Kd.R_mono (RK1 (Kd.R_types aH.out ac.out (by decide))) (fun _ hk=>hk.1)⟩,⟨by first|exact Kd.S_nil _ _ _ _ _|exact Kd.N_nil _ _ _ _ _|exact Kd.V_nil _ _ _ _ _|exact Kd.Q_nil _ _ _ _ _|exact Kd.R_nil _ _ _ _ _⟩,⟨(TZ ab)⟩,⟨(TZ ad)⟩,⟨(blk_put (blk_put (blk_put (blk_put (blk_put (blk_put (cs:=#[.slice none 0 0,.slice none 0 0,.int .i64 0,.int .i64 0,.int .i64 0,.slice none 0 0]) (TZ ac) 0 _ rfl) 1 _ rfl) 2 _ rfl) 3 _ rfl) 4 _ rfl) 5 _ rfl)⟩,⟨TB⟩⟩
 case round=>
  clear H';try clear hczq1
  try clear hczq2
  try clear hczq3
  try clear hczq4
  try clear hczq5
  try clear hczq6
  try clear hfzq1
  try clear hfzq2
  try clear hfzq3
  try clear hfzq4
  try clear hfzq5
  try clear hfzq6
  obtain⟨xq1,xq2,uq1,rfl,HA,HKq1,aE,aD,aq,ab,ad,ac,HB⟩:=hrel;cases gk with
  |zero=>exact absurd HA.out (by simp [impl_copyDisk.l0])
  | succ k1=>
   have H:=HA.out;clear HA;simp only[impl_copyDisk.l0] at H
   by_cases cq6:xq1<(aa.length:Int)
   ·rw[if_pos cq6] at H;have cq7:decide (xq1<(aa.length:Int))=true:=decide_eq_true cq6;clear cq6;replace H:=ifN H;obtain⟨cq8,H⟩:=H;have cq9:decide (0≤xq1)=true:=decide_eq_true cq8;clear cq8;replace H:=ifN H;obtain⟨cq10,H⟩:=H;have cq11:decide (xq1<(aa.length:Int))=true:=decide_eq_true cq10;clear cq10;replace H:=bE H;obtain⟨⟨tq1,tq2,tq3,tq4,tq5,tq6⟩,Aq3,H⟩:=H;dsimp only at H;replace H:=ifN H;obtain⟨cq12,H⟩:=H;have LMcq1:=aM cq12;clear cq12;obtain⟨yq1,bd⟩:∃y_:List (S91),y_=(xq2++[(⟨tq1,tq2,tq3,(⟨tq4,tq5,tq6⟩:S36)⟩:S91)]):=⟨_,rfl⟩;rw[← bd] at H;have Nyq1:=aM bd;clear bd;have H':=aM H;clear H;have pq2:0≤(xq1:Int):=DT;have qq1:xq1<(aa.length:Int):=DT;obtain⟨adq1,Aq4,aU,eq1,bg,bf,be,ba,bb,bc,hlq1,hiq1⟩:=at_T91 HRq3.out xq1 pq2 qq1;cases eq1;replace bg:=(HB.out.cell (World.block_lt_of_cell? w _ bg)).trans bg;replace bf:=(HB.out.cell (World.block_lt_of_cell? w _ bf)).trans bf;replace be:=(HB.out.cell (World.block_lt_of_cell? w _ be)).trans be;replace ba:=(HB.out.cell (World.block_lt_of_cell? w _ ba)).trans ba;replace bb:=(HB.out.cell (World.block_lt_of_cell? w _ bb)).trans bb;replace bc:=(HB.out.cell (World.block_lt_of_cell? w _ bc)).trans bc;have HRq4:=aM hiq1;have HCq4:=aM hlq1;clear hiq1 hlq1;replace pq2:=eq_true pq2;replace qq1:=eq_true qq1;try go_wp2_with (first|(refine g_D 5 ?_;refine gBx 5 #[.int .i64 0,.int .i64 0,.slice none 0 0,.int .i64 0,.int .i64 0,.int .i64 0] 91 ?_;intro ar hg wq5 hbox hb;have ai:=aM (hbox);have GWq4:=gW HB hg;have GEq4:=gW HB hg;obtain⟨NBq7,NBq8⟩:=nB ab hg;obtain⟨NBq9,NBq10⟩:=nB ad hg;obtain⟨NBq11,NBq12⟩:=nB ac hg;replace aE:=mR aE hb;replace aD:=mR aD hb;replace aq:=aM (Kd.S_below (Kd.S_elderB (by have X_:=aq.out;exact TS) ar (Nat.le_of_eq hg.symm)) hb);replace ab:=mB ab hb;replace ad:=mB ad hb;replace ac:=mB ac hb;replace HB:=bS HB hb;clear hb hbox hg;obtain⟨hnbq3,hncq3⟩:=oB NBq8;obtain⟨hnbq4,hncq4⟩:=oB NBq10;obtain⟨hnbq5,hncq5⟩:=oB NBq12;obtain⟨hczq7,hczq8,hczq9,bs,br,bo⟩:=cz6 ai.out;obtain⟨hfzq7,hfzq8,hfzq9,bp,bt,bq⟩:=fz6 ai.out))
    generalize hX_:(((((wq5.setCell ⟨ar,0,none⟩ (.int .i64 ((rd_T91 aa xq1).f0))).setCell ⟨ar,1,none⟩ (.int .i64 ((rd_T91 aa xq1).f1))).setCell ⟨ar,2,none⟩ (.slice Aq4 ((rd_T91 aa xq1).f2).length aU)).setCell ⟨ar,3,none⟩ (.int .i64 ((rd_T91 aa xq1).f3.f0))).setCell ⟨ar,4,none⟩ (.int .i64 ((rd_T91 aa xq1).f3.f1))).setCell ⟨ar,5,none⟩ (.int .i64 ((rd_T91 aa xq1).f3.f2))=wq6;replace aE:Aside0 (Kd.R (Kd.int .u8) 5 wq6 w.heap.size (fun k_=>some k_≠(.slice aw ah.length ax:Value).ownBlock) (.slice au ak.length av) ak):=⟨by rw[← hX_];(with_reducible repeat (first|apply Kd.R_alloc|apply Kd.R_drewN|apply Kd.R_drew));exact Kd.R_mono (RK1 (Kd.R_types aE.out ai.out (by decide))) (fun _ hk=>hk.1)⟩;replace aD:Aside0 (Kd.R (Kd.int .u8) 5 wq6 w.heap.size (fun k_=>some k_≠(.slice au ak.length av:Value).ownBlock) (.slice aw ah.length ax) ah):=⟨by rw[← hX_];(with_reducible repeat (first|apply Kd.R_alloc|apply Kd.R_drewN|apply Kd.R_drew));exact Kd.R_mono (RK1 (Kd.R_types aD.out ai.out (by decide))) (fun _ hk=>hk.1)⟩;replace aq:Aside0 (Kd.S k91 91 wq6 w.heap.size (fun k_=>some k_≠(.slice au ak.length av:Value).ownBlock∧some k_≠(.slice aw ah.length ax:Value).ownBlock∧k_≠ar) uq1 xq2):=⟨by rw[← hX_];(with_reducible repeat (first|apply Kd.S_alloc|apply Kd.S_drewN|apply Kd.S_drew));exact Kd.S_mono (Kd.S_far (p:=⟨ar,5,none⟩) (Kd.S_far (p:=⟨ar,4,none⟩) (Kd.S_far (p:=⟨ar,3,none⟩) (Kd.S_far (p:=⟨ar,2,none⟩) (Kd.S_far (p:=⟨ar,1,none⟩) (Kd.S_far (p:=⟨ar,0,none⟩) (Kd.S_mono aq.out (fun k_ hk=>(⟨hk,hk.2⟩:_∧k_≠ar))) (fun _ hk=>hk.2) (.int .i64 ((rd_T91 aa xq1).f0))) (fun _ hk=>hk.2) (.int .i64 ((rd_T91 aa xq1).f1))) (fun _ hk=>hk.2) (.slice Aq4 ((rd_T91 aa xq1).f2).length aU)) (fun _ hk=>hk.2) (.int .i64 ((rd_T91 aa xq1).f3.f0))) (fun _ hk=>hk.2) (.int .i64 ((rd_T91 aa xq1).f3.f1))) (fun _ hk=>hk.2) (.int .i64 ((rd_T91 aa xq1).f3.f2))) (fun _ hk=>⟨hk.1.1.1,⟨hk.1.1.2,hk.1.2⟩⟩)⟩;replace ab:Aside0 (wq6.heap[af]?=some (.cells #[.slice aA ao.length aC,.slice ay aj.length az,.int .i64 al,.int .i64 an,.int .i64 am,.slice (some adq1) aa.length aG] 39 (0,0))):=⟨by rw[← hX_];exact(TZ ab)⟩;replace ad:Aside0 (wq6.heap[gbq2]?=some (.cells #[.slice none 0 0,.slice none 0 0,.int .i64 0,.int .i64 0,.int .i64 0,.slice none 0 0] 39 (0,0))):=⟨by rw[← hX_];exact(TZ ad)⟩;replace ac:Aside0 (wq6.heap[ae]?=some (.cells #[.slice au ak.length av,.slice aw ah.length ax,.int .i64 al,.int .i64 an,.int .i64 am,uq1] 39 (0,0))):=⟨by rw[← hX_];exact(TZ ac)⟩;replace ai:Aside0 (wq6.heap[ar]?=some (.cells #[.int .i64 ((rd_T91 aa xq1).f0),.int .i64 ((rd_T91 aa xq1).f1),.slice Aq4 ((rd_T91 aa xq1).f2).length aU,.int .i64 ((rd_T91 aa xq1).f3.f0),.int .i64 ((rd_T91 aa xq1).f3.f1),.int .i64 ((rd_T91 aa xq1).f3.f2)] 91 (0,0))):=⟨by rw[← hX_];exact(blk_put (blk_put (blk_put (blk_put (blk_put (blk_put (cs:=#[.int .i64 0,.int .i64 0,.slice none 0 0,.int .i64 0,.int .i64 0,.int .i64 0]) (TZ ai) 0 _ rfl) 1 _ rfl) 2 _ rfl) 3 _ rfl) 4 _ rfl) 5 _ rfl)⟩;replace HB:Aside0 (Below w.heap.size w wq6):=⟨by rw[← hX_];exact TB⟩;clear hX_;replace aE:=rD aE;replace aD:=rD aD;replace aq:=aM (Kd.S_drew aq.out);replace ab:=bD ab;replace ad:=bD ad;replace ac:=bD ac;replace ai:=bD ai;replace HB:=aM (below_drew1 HB.out);refine st_ (n:=8) (ds:=[7]) #[false,false,false,false,false,false,false,false] (hJ6 ac.out (hK6 ai.out)) (by kernel_rfl) rfl rfl (fun hHeld=>?_);refine with_tabW impl_copyDisk.tab5 impl_copyDisk.bits5 (fun HT_ HW_=>?_);generalize wq6.drew=wq7 at aE aD aq ab ad ac ai HB hHeld ⊢;refine pPe 0 (some 22) #[true,false,false,false,false,false,false,false] ?_;refine pTe 1 (some 23) #[true,true,false,false,false,false,false,false] ?_;refine pTe 2 (some 24) #[true,true,true,false,false,false,false,false] ?_;refine pOe 3 (some 25) #[true,true,true,true,false,false,false,false] (fun K hK=>?_);refine gG Tryz.func75 #[.agg #[.int .i64 ((rd_T91 aa xq1).f0),.int .i64 ((rd_T91 aa xq1).f1),.slice Aq4 ((rd_T91 aa xq1).f2).length aU,.int .i64 ((rd_T91 aa xq1).f3.f0),.int .i64 ((rd_T91 aa xq1).f3.f1),.int .i64 ((rd_T91 aa xq1).f3.f2)]] ?_;with_reducible refine(impl_copyPut.calls ?side1 ?side2 Aq3.out).mono ?_
    (case side1=>have X_:=(Kd.C_below HRq4.out HB.out);exact TC);(case side2=>exact HCq4.out);rintro e wq8 ⟨vq4,rfl,ap,hb⟩;refine⟨_,rfl,?_⟩;have n0_:=aM (Kd.R_elder' (TRf aE) (Kd.R_base ap) hb);have n1_:=aM (Kd.R_elder' (TRf aD) (Kd.R_base ap) hb);have n2_:=aM (Kd.S_elder' (by have X_:=aq.out;exact TS) (Kd.R_base ap) hb);have n3_:=aM (Kd.R_lower (Kd.R_new' (Kd.R_new' ap (Kd.R_lt (TRf aE))) (Kd.R_lt (TRf aD))) (below_size TB));have n4_:=mB ab hb;have n5_:=mB ad hb;have n6_:=mB ac hb;have n7_:=mB ai hb;have n8_:=bS HB hb;clear aE;clear aD;clear aq;clear ab;clear ad;clear ac;clear ai;clear HB;have aE:=n0_;have aD:=n1_;have aq:=n2_;have a6:=n3_;have ab:=n4_;have ad:=n5_;have ac:=n6_;have ai:=n7_;have HB:=n8_;clear n0_ n1_ n2_ n3_ n4_ n5_ n6_ n7_ n8_;(try clear hb);(try clear hk);(try clear ap);obtain⟨aZ,a7,a8⟩:=Kd.R_slice a6.out;(first|subst a8|(injection a8 with f1_ f2_ f3_;have f4_:=f1_.symm;have f5_:=f3_.symm;clear f1_ f2_ f3_;subst f4_;subst f5_));refine hK.out _ _ (cJ6 ac.out (cK6 ai.out)) (fun hHeld=>?_);clear hK K;refine nR ?_;refine pOe 4 (some 26) #[true,true,true,true,true,false,false,false] (fun K hK=>?_);refine value_ (w1:=?_) (v:=?_) (by rfl) rfl ?_ ?_;rotate_left 2
    ·go_simp
     constructor
     ·rfl
     ·rfl
    refine hK.out _ _ ⟨(blk_cell (blk_alloc ac.out _) 0).trans rfl,(blk_cell (blk_alloc ac.out _) 1).trans rfl,(blk_cell (blk_alloc ac.out _) 2).trans rfl,(blk_cell (blk_alloc ac.out _) 3).trans rfl,(blk_cell (blk_alloc ac.out _) 4).trans rfl,(blk_cell (blk_alloc ac.out _) 5).trans rfl,(blk_cell (blk_alloc ai.out _) 0).trans rfl,(blk_cell (blk_alloc ai.out _) 1).trans rfl,(blk_cell (blk_alloc ai.out _) 2).trans rfl,(blk_cell (blk_alloc ai.out _) 3).trans rfl,(blk_cell (blk_alloc ai.out _) 4).trans rfl,(blk_cell (blk_alloc ai.out _) 5).trans rfl⟩ (fun hHeld=>?_);clear hK K;refine nR ?_;refine pOe 5 (some 27) #[true,true,true,true,true,true,false,false] (fun K hK=>?_);refine Kd.S_append_step k91 (w0:=w) w.heap.size (by rfl) (.tmp 23) (.tmp 26) 37 91 (.agg #[(.int .i64 0),(.int .i64 0),(.slice none 0 0),(.int .i64 0),(.int .i64 0),(.int .i64 0)]) 64 rfl Tryz.underlying37 info91 rfl (by decide) (by omega) uq1 xq2 (⟨tq1,tq2,tq3,(⟨tq4,tq5,tq6⟩:S36)⟩:S91) [.int .i64 tq1,.int .i64 tq2,.slice aZ tq3.length a7,.int .i64 tq4,.int .i64 tq5,.int .i64 tq6] (fun k_=>some k_≠(.slice au ak.length av:Value).ownBlock∧some k_≠(.slice aw ah.length ax:Value).ownBlock∧k_≠ar) (fun k_=>some k_=(.slice aZ tq3.length a7:Value).ownBlock) rfl rfl ?aP (fun k_ hk_=>((Kd.R_mono (ok':=fun k_=>((fun k_=>some k_≠(.slice au ak.length av:Value).ownBlock∧some k_≠(.slice aw ah.length ax:Value).ownBlock∧k_≠ar)) k_∧some k_≠(uq1:Value).ownBlock) (Kd.R_types (Kd.R_apart' (a6.out) (Kd.S_typed aq.out) (by decide)) ai.out (by decide)) (fun k_ hk=>⟨⟨hk.1.1.1.2,⟨hk.1.1.2,hk.2⟩⟩,hk.1.2⟩))).1 k_ hk_.symm) ?aF ?aO ?aB ?aS ?aL ?_;(case aP=>exact k91_mkM _ _ _ (⟨tq1,tq2,tq3,(⟨tq4,tq5,tq6⟩:S36)⟩:S91) (Kd.R_mono (Kd.R_tight rfl (Kd.R_mono (ok':=fun k_=>((fun k_=>some k_≠(.slice au ak.length av:Value).ownBlock∧some k_≠(.slice aw ah.length ax:Value).ownBlock∧k_≠ar)) k_∧some k_≠(uq1:Value).ownBlock) (Kd.R_types (Kd.R_apart' (a6.out) (Kd.S_typed aq.out) (by decide)) ai.out (by decide)) (fun k_ hk=>⟨⟨hk.1.1.1.2,⟨hk.1.1.2,hk.2⟩⟩,hk.1.2⟩))) (fun _ h_=>h_)));(case aB=>exact TB);(case aF=>exact(fun k_ hk=>⟨Kd.fresh' (Kd.R_lt (TRf aE)) k_ hk,Kd.fresh' (Kd.R_lt (TRf aD)) k_ hk,Kd.freshB (g:=ar) (o:=.cells #[.int .i64 ((rd_T91 aa xq1).f0),.int .i64 ((rd_T91 aa xq1).f1),.slice Aq4 ((rd_T91 aa xq1).f2).length aU,.int .i64 ((rd_T91 aa xq1).f3.f0),.int .i64 ((rd_T91 aa xq1).f3.f1),.int .i64 ((rd_T91 aa xq1).f3.f2)] 91 (0,0)) TK k_ hk⟩));(case aO=>exact(by (with_reducible repeat (first|apply Kd.S_alloc|apply Kd.S_drewN|apply Kd.S_drew));exact Kd.S_mono aq.out (fun k_ hk=>⟨⟨hk.1.1,⟨hk.1.2.1,hk.1.2.2⟩⟩,fun e_=>hk.2 e_⟩)));(case aS=>exact(below_size TB));(case aL=>have:=LMcq1.out;omega);intro vq5 wq9 ho hb hg hat;rw[← Nyq1.out] at ho;have n0_:=aM (Kd.R_over' (TRf aE) (Kd.S_typed (by have X_:=aq.out;exact TS)) (by decide) hg);have n1_:=aM (Kd.R_over' (TRf aD) (Kd.S_typed (by have X_:=aq.out;exact TS)) (by decide) hg);have n2_:=aM (blk_grown (g:=af) (o:=.cells #[.slice aA ao.length aC,.slice ay aj.length az,.int .i64 al,.int .i64 an,.int .i64 am,.slice (some adq1) aa.length aG] 39 (0,0)) TK hg (Kd.S_ne aq.out ab.out (by decide)));have n3_:=aM (blk_grown (g:=gbq2) (o:=.cells #[.slice none 0 0,.slice none 0 0,.int .i64 0,.int .i64 0,.int .i64 0,.slice none 0 0] 39 (0,0)) TK hg (Kd.S_ne aq.out ad.out (by decide)));have n4_:=aM (blk_grown (g:=ae) (o:=.cells #[.slice au ak.length av,.slice aw ah.length ax,.int .i64 al,.int .i64 an,.int .i64 am,uq1] 39 (0,0)) TK hg (Kd.S_ne aq.out ac.out (by decide)));have n5_:=aM (blk_grown (g:=ar) (o:=.cells #[.int .i64 ((rd_T91 aa xq1).f0),.int .i64 ((rd_T91 aa xq1).f1),.slice Aq4 ((rd_T91 aa xq1).f2).length aU,.int .i64 ((rd_T91 aa xq1).f3.f0),.int .i64 ((rd_T91 aa xq1).f3.f1),.int .i64 ((rd_T91 aa xq1).f3.f2)] 91 (0,0)) TK hg (Kd.S_away aq.out (fun _ hk=>hk.1.2.2)));have n6_:=aM (hb);have n7_:=aM (ho);clear aE;clear aD;clear ab;clear ad;clear ac;clear ai;clear HB;clear aq;clear a6;have aE:=n0_;have aD:=n1_;have ab:=n2_;have ad:=n3_;have ac:=n4_;have ai:=n5_;have HB:=n6_;have HOq7:=n7_;clear n0_ n1_ n2_ n3_ n4_ n5_ n6_ n7_;clear ho hb hg hat;obtain⟨Aoq4,coq4,eoq4⟩:=Kd.S_slice HOq7.out;(first|subst eoq4|(injection eoq4 with f1_ f2_ f3_;have f4_:=f1_.symm;have f5_:=f3_.symm;clear f1_ f2_ f3_;subst f4_;subst f5_));refine hK.out _ _ (cJ6 ac.out (cK6 ai.out)) (fun hHeld=>?_);clear hK K;refine nR ?_;refine pPe 6 (some 28) #[true,true,true,true,true,true,true,false] ?_;refine pLe 7 none #[true,true,true,true,true,true,true,true] (fun K hK=>?_);have hsq7:wq9.cell? ⟨ae,5,none⟩=some (uq1):=bC ac 5;have hfsq7:=blk_frozen ac.out 5;have hnsq3:=NBq12.out;have hmsq3:=NBq11.out;refine skip_ (w1:=?_) (by rfl) rfl ?_ ?_;rotate_left
    ·go_simp;rfl
    refine hK.out _ _ ?_;clear hK K;refine done_ (done_of HT_.out (by kernel_rfl)) ?_;try go_wp2
    go_roundg k1
    case measure=>have:=HKq1.out;omega
    case rel=>exact⟨(wrap64 (xq1+1)),(yq1),(.slice Aoq4 yq1.length coq4),TF,H',⟨by have:=HKq1.out;omega⟩,⟨by (with_reducible repeat (first|apply Kd.R_alloc|apply Kd.R_drewN|apply Kd.R_drew));exact Kd.R_mono (RK1 (Kd.R_types aE.out ac.out (by decide))) (fun _ hk=>hk.1.1)⟩,⟨by (with_reducible repeat (first|apply Kd.R_alloc|apply Kd.R_drewN|apply Kd.R_drew));exact Kd.R_mono (RK1 (Kd.R_types aD.out ac.out (by decide))) (fun _ hk=>hk.1.1)⟩,⟨by (with_reducible repeat (first|apply Kd.S_alloc|apply Kd.S_drewN|apply Kd.S_drew));exact Kd.S_mono (SK1 (Kd.S_types HOq7.out ac.out (by decide))) (fun _ hk=>⟨hk.1.1,hk.1.2.1⟩)⟩,⟨(TZ ab)⟩,⟨(TZ ad)⟩,⟨(blk_put (cs:=#[.slice au ak.length av,.slice aw ah.length ax,.int .i64 al,.int .i64 an,.int .i64 am,uq1]) (TZ ac) 5 _ rfl)⟩,⟨TB⟩⟩
   ·rw[if_neg cq6] at H;have cq7:decide (xq1<(aa.length:Int))=false:=decide_eq_false cq6;clear cq6;simp only[Option.some.injEq,Prod.mk.injEq] at H;obtain⟨rfl,rfl,rfl,rfl,rfl,rfl⟩:=H;obtain⟨hnbq3,hncq3⟩:=oB aR;obtain⟨hnbq4,hncq4⟩:=oB aN;obtain⟨hczq7,hczq8,hczq9,bs,br,bo⟩:=cz6 ac.out;obtain⟨hfzq7,hfzq8,hfzq9,bp,bt,bq⟩:=fz6 ac.out;obtain⟨hnbq5,hncq5⟩:=oB NBq2;obtain⟨hczq13,hczq14,hczq15,hczq16,hczq17,hczq18⟩:=cz6 ad.out;obtain⟨hfzq13,hfzq14,hfzq15,hfzq16,hfzq17,hfzq18⟩:=fz6 ad.out;obtain⟨aZ,a7,a8⟩:=Kd.S_slice aq.out;subst a8;go_wp2
    refine bodyPost_ret (results_cell_row rfl _ _ gbq2 39 #[.slice au ak.length av,.slice aw ah.length ax,.int .i64 al,.int .i64 an,.int .i64 am,.slice aZ xq2.length a7] (0,0) _ rfl (blk_put (blk_put (blk_put (blk_put (blk_put (blk_put (cs:=#[.slice none 0 0,.slice none 0 0,.int .i64 0,.int .i64 0,.int .i64 0,.slice none 0 0]) (TZ ad) 0 _ rfl) 1 _ rfl) 2 _ rfl) 3 _ rfl) 4 _ rfl) 5 _ rfl) Tryz.underlying39 rfl (by kernel_rfl)) rfl ?_;exact⟨_,_,_,TE,by (with_reducible repeat (first|apply Kd.R_alloc|apply Kd.R_drewN|apply Kd.R_drew));exact Kd.R_mono (RK1 (Kd.R_types aE.out ad.out (by decide))) (fun _ hk=>hk.1),by (with_reducible repeat (first|apply Kd.R_alloc|apply Kd.R_drewN|apply Kd.R_drew));exact Kd.R_mono (RK1 (Kd.R_types aD.out ad.out (by decide))) (fun _ hk=>hk.1),by (with_reducible repeat (first|apply Kd.S_alloc|apply Kd.S_drewN|apply Kd.S_drew));exact Kd.S_mono (SK1 (Kd.S_types aq.out ad.out (by decide))) (fun _ hk=>⟨hk.1.1,hk.1.2⟩),TB⟩
attribute [local go_sem] min2_int min_two
attribute [local go_sem high] eqA36
def impl_isSlot.f (a0:Int):Option (Bool):=if a0=0 then (some true) else (some (a0==1))
theorem impl_isSlot.calls {a0:Int}{r:Bool}{w:World}(h:impl_isSlot.f a0=some r):
    Calls Tryz.prog 110 #[.int .i64 a0] w fun e w'=>e=.returned (.bool r)∧Drawn0 w w':=by
  have H:=h
  clear h
  unfold impl_isSlot.f at H
  by_cases c2:a0=0
  · rw[if_pos c2] at H
    have c2b0:(a0==0)=true:=beq_iff_eq.mpr c2
    have c2b1:(a0 != 0)=false:=bne_eq_false_iff_eq.mpr c2
    clear c2
    obtain rfl:=o_I H
    go_enter Tryz.func110,Tryz.ntmps110
    go_wp2
    go_ret
    exact⟨by first|rfl|(simp;done)|(simp [*];done),TD⟩
  · rw[if_neg c2] at H
    have c2b0:(a0==0)=false:=beq_eq_false_iff_ne.mpr c2
    have c2b1:(a0 != 0)=true:=bne_iff_ne.mpr c2
    obtain rfl:=o_I H
    go_enter Tryz.func110,Tryz.ntmps110
    go_wp2
    go_ret
    exact⟨by first|rfl|(simp;done)|(simp [*];done),TD⟩
def impl_isGen.f (a0:Int):Option (Bool):=(impl_within.f a0 0 1000000).bind fun t708=>(some t708)
theorem impl_isGen.calls {a0:Int}{r:Bool}{w:World}(h:impl_isGen.f a0=some r):
    Calls Tryz.prog 121 #[.int .i64 a0] w fun e w'=>e=.returned (.bool r)∧Drawn0 w w':=by
  have H:=h
  clear h
  unfold impl_isGen.f at H
  replace H:=bE H
  obtain⟨t708,A2,H⟩:=H
  obtain rfl:=o_I H
  go_enter Tryz.func121,Tryz.ntmps121
  go_wp2_with (first|(refine g_C 106 ?_;refine gL (some 4) Tryz.func106 #[.int .i64 a0,.int .i64 0,.int .i64 1000000] ?_;(with_reducible refine(impl_within.calls A2.out).mono ?_);rintro e w' ⟨rfl,⟨nd,rfl⟩⟩;refine⟨_,rfl,?_⟩))
  go_ret
  exact⟨by first|rfl|(simp;done)|(simp [*];done),TD⟩
def impl_isRecord.f (a0_0:Int)(a0_1:Int)(a0_2:Int):Option (Bool):=(impl_isGen.f a0_0).bind fun t710=>(if t710=true then ((impl_isSlot.f a0_1).bind fun t711=>(if t711=true then ((impl_within.f a0_2 0 240).bind fun t712=>(some t712)) else (some false))) else (some false))
theorem impl_isRecord.calls {a0_0:Int}{a0_1:Int}{a0_2:Int}{r:Bool}{w:World}(h:impl_isRecord.f a0_0 a0_1 a0_2=some r):
    Calls Tryz.prog 101 #[.agg #[.int .i64 a0_0,.int .i64 a0_1,.int .i64 a0_2]] w fun e w'=>e=.returned (.bool r)∧Below w.heap.size w w':=by
  have hu36:=Tryz.underlying36
  have HB:=aM (Below.refl w.heap.size w)
  have H:=h
  clear h
  unfold impl_isRecord.f at H
  replace H:=bE H
  obtain⟨t710,A2,H⟩:=H
  go_enter Tryz.func101,Tryz.ntmps101
  go_wp2_with (first|(refine g_D 1 ?_;refine gBx 1 #[.int .i64 a0_0,.int .i64 a0_1,.int .i64 a0_2] 36 ?_;intro gb709 hg w4 hbox hb;have BK709:=aM (hbox);have GW709:=gW HB hg;have GE709:=gW HB hg;replace HB:=bS HB hb;clear hb hbox hg;obtain⟨hcz5_0,hcz5_1,hcz5_2⟩:=cz3 BK709.out;obtain⟨hfz5_0,hfz5_1,hfz5_2⟩:=fz3 BK709.out)|(refine g_C 121 ?_;refine g_D 5 ?_;generalize hG_:wpList _ _ _ _ _ _=G_))
  subst hG_
  by_cases c6:t710=true
  · subst c6
    replace H:=ifT H
    replace H:=bE H
    obtain⟨t711,A7,H⟩:=H
    by_cases c8:t711=true
    · subst c8
      replace H:=ifT H
      replace H:=bE H
      obtain⟨t712,A9,H⟩:=H
      obtain rfl:=o_I H
      go_wp2_with (first|(refine g_C 121 ?_;refine gL (some 5) Tryz.func121 #[.int .i64 a0_0] ?_;(with_reducible refine(impl_isGen.calls A2.out).mono ?_);rintro e w' ⟨rfl,⟨nd,rfl⟩⟩;refine⟨_,rfl,?_⟩;obtain⟨hcz10_0,hcz10_1,hcz10_2⟩:=cz3 BK709.out;obtain⟨hfz10_0,hfz10_1,hfz10_2⟩:=fz3 BK709.out)|(go_at_call 110;(with_reducible refine(impl_isSlot.calls A7.out).mono ?_);rintro e w' ⟨rfl,⟨nd,rfl⟩⟩)|(go_at_call 106;(with_reducible refine(impl_within.calls A9.out).mono ?_);rintro e w' ⟨rfl,⟨nd,rfl⟩⟩))
      go_ret
      exact⟨TE,TB⟩
    · replace c8:=b_F c8
      subst c8
      replace H:=ifF H
      obtain rfl:=o_I H
      go_wp2_with (first|(refine g_C 121 ?_;refine gL (some 5) Tryz.func121 #[.int .i64 a0_0] ?_;(with_reducible refine(impl_isGen.calls A2.out).mono ?_);rintro e w' ⟨rfl,⟨nd,rfl⟩⟩;refine⟨_,rfl,?_⟩;obtain⟨hcz11_0,hcz11_1,hcz11_2⟩:=cz3 BK709.out;obtain⟨hfz11_0,hfz11_1,hfz11_2⟩:=fz3 BK709.out)|(go_at_call 110;(with_reducible refine(impl_isSlot.calls A7.out).mono ?_);rintro e w' ⟨rfl,⟨nd,rfl⟩⟩))
      go_ret
      exact⟨TE,TB⟩
  · replace c6:=b_F c6
    subst c6
    replace H:=ifF H
    obtain rfl:=o_I H
    go_wp2_with (first|(refine g_C 121 ?_;refine gL (some 5) Tryz.func121 #[.int .i64 a0_0] ?_;(with_reducible refine(impl_isGen.calls A2.out).mono ?_);rintro e w' ⟨rfl,⟨nd,rfl⟩⟩;refine⟨_,rfl,?_⟩))
    go_ret
    exact⟨TE,TB⟩
def impl_isPut.f (a0_0:Int)(a0_1:Int)(l0_2:List Int)(a0_3:Int)(a0_4:Int)(a0_5:Int):Option (Bool):=if a0_0=2 then (if a0_1=0 then (if (l0_2.length:Int)=0 then ((impl_isRecord.f a0_3 a0_4 a0_5).bind fun t714=>(some t714)) else (some false)) else (some false)) else ((impl_isSlot.f a0_0).bind fun t715=>(if t715=true then (if (a0_3==0&&(a0_4==0&&(a0_5==0)))=true then ((impl_within.f a0_1 0 (wrap64 (240 - (l0_2.length:Int)))).bind fun t716=>(some t716)) else (some false)) else (some false)))
theorem impl_isPut.calls {a0_0:Int}{a0_1:Int}{A0_2:Option Addr}{c0_2:Nat}{l0_2:List Int}{a0_3:Int}{a0_4:Int}{a0_5:Int}{r:Bool}{w:World}(hr0_2:Kd.C (Kd.int .u8) w A0_2 l0_2.length l0_2)(hc0_2:l0_2.length≤c0_2)(h:impl_isPut.f a0_0 a0_1 l0_2 a0_3 a0_4 a0_5=some r):
    Calls Tryz.prog 105 #[.agg #[.int .i64 a0_0,.int .i64 a0_1,.slice A0_2 l0_2.length c0_2,.int .i64 a0_3,.int .i64 a0_4,.int .i64 a0_5]] w fun e w'=>e=.returned (.bool r)∧Below w.heap.size w w':=by
  have hu91:=Tryz.underlying91
  have hu36:=Tryz.underlying36
  have HR0_2:=aM hr0_2
  have HC0_2:=aM hc0_2
  clear hr0_2 hc0_2
  have HB:=aM (Below.refl w.heap.size w)
  have H:=h
  clear h
  unfold impl_isPut.f at H
  by_cases c2:a0_0=2
  · rw[if_pos c2] at H
    have c2b0:(a0_0==2)=true:=beq_iff_eq.mpr c2
    have c2b1:(a0_0 != 2)=false:=bne_eq_false_iff_eq.mpr c2
    clear c2
    by_cases c3:a0_1=0
    · rw[if_pos c3] at H
      have c3b0:(a0_1==0)=true:=beq_iff_eq.mpr c3
      have c3b1:(a0_1 != 0)=false:=bne_eq_false_iff_eq.mpr c3
      clear c3
      by_cases c4:(l0_2.length:Int)=0
      · rw[if_pos c4] at H
        have c4b0:((l0_2.length:Int)==0)=true:=beq_iff_eq.mpr c4
        have c4b1:((l0_2.length:Int) != 0)=false:=bne_eq_false_iff_eq.mpr c4
        clear c4
        replace H:=bE H
        obtain⟨t714,A5,H⟩:=H
        obtain rfl:=o_I H
        go_enter Tryz.func105,Tryz.ntmps105
        go_wp2_with (first|(refine g_D 1 ?_;(try (refine gate_guard (by rfl) ?_;dsimp only));refine gBx 1 #[.int .i64 a0_0,.int .i64 a0_1,.slice A0_2 l0_2.length c0_2,.int .i64 a0_3,.int .i64 a0_4,.int .i64 a0_5] 91 ?_;intro gb713 hg w6 hbox hb;have BK713:=aM (hbox);have GW713:=gW HB hg;have GE713:=gW HB hg;replace HB:=bS HB hb;clear hb hbox hg;obtain⟨hcz7_0,hcz7_1,hcz7_2,hcz7_3,hcz7_4,hcz7_5⟩:=cz6 BK713.out;obtain⟨hfz7_0,hfz7_1,hfz7_2,hfz7_3,hfz7_4,hfz7_5⟩:=fz6 BK713.out)|(go_at_call 101;(with_reducible refine(impl_isRecord.calls A5.out).mono ?_);rintro e w8 ⟨rfl,hb⟩;replace BK713:=mB BK713 hb;replace HB:=bS HB hb;clear hb))
        go_ret
        exact⟨TE,TB⟩
      · rw[if_neg c4] at H
        have c4b0:((l0_2.length:Int)==0)=false:=beq_eq_false_iff_ne.mpr c4
        have c4b1:((l0_2.length:Int) != 0)=true:=bne_iff_ne.mpr c4
        have c4b2:¬(l0_2=[]):=fun h_=>c4 (by rw[h_];rfl)
        obtain rfl:=o_I H
        go_enter Tryz.func105,Tryz.ntmps105
        go_wp2_with (first|(refine g_D 1 ?_;(try (refine gate_guard (by rfl) ?_;dsimp only));refine gBx 1 #[.int .i64 a0_0,.int .i64 a0_1,.slice A0_2 l0_2.length c0_2,.int .i64 a0_3,.int .i64 a0_4,.int .i64 a0_5] 91 ?_;intro gb713 hg w9 hbox hb;have BK713:=aM (hbox);have GW713:=gW HB hg;have GE713:=gW HB hg;replace HB:=bS HB hb;clear hb hbox hg;obtain⟨hcz10_0,hcz10_1,hcz10_2,hcz10_3,hcz10_4,hcz10_5⟩:=cz6 BK713.out;obtain⟨hfz10_0,hfz10_1,hfz10_2,hfz10_3,hfz10_4,hfz10_5⟩:=fz6 BK713.out))
        go_ret
        exact⟨TE,TB⟩
    · rw[if_neg c3] at H
      have c3b0:(a0_1==0)=false:=beq_eq_false_iff_ne.mpr c3
      have c3b1:(a0_1 != 0)=true:=bne_iff_ne.mpr c3
      obtain rfl:=o_I H
      go_enter Tryz.func105,Tryz.ntmps105
      go_wp2_with (first|(refine g_D 1 ?_;(try (refine gate_guard (by rfl) ?_;dsimp only));refine gBx 1 #[.int .i64 a0_0,.int .i64 a0_1,.slice A0_2 l0_2.length c0_2,.int .i64 a0_3,.int .i64 a0_4,.int .i64 a0_5] 91 ?_;intro gb713 hg w11 hbox hb;have BK713:=aM (hbox);have GW713:=gW HB hg;have GE713:=gW HB hg;replace HB:=bS HB hb;clear hb hbox hg;obtain⟨hcz12_0,hcz12_1,hcz12_2,hcz12_3,hcz12_4,hcz12_5⟩:=cz6 BK713.out;obtain⟨hfz12_0,hfz12_1,hfz12_2,hfz12_3,hfz12_4,hfz12_5⟩:=fz6 BK713.out))
      go_ret
      exact⟨TE,TB⟩
  · rw[if_neg c2] at H
    have c2b0:(a0_0==2)=false:=beq_eq_false_iff_ne.mpr c2
    have c2b1:(a0_0 != 2)=true:=bne_iff_ne.mpr c2
    replace H:=bE H
    obtain⟨t715,A13,H⟩:=H
    go_enter Tryz.func105,Tryz.ntmps105
    go_wp2_with (first|(refine g_D 1 ?_;(try (refine gate_guard (by rfl) ?_;dsimp only));refine gBx 1 #[.int .i64 a0_0,.int .i64 a0_1,.slice A0_2 l0_2.length c0_2,.int .i64 a0_3,.int .i64 a0_4,.int .i64 a0_5] 91 ?_;intro gb713 hg w15 hbox hb;have BK713:=aM (hbox);have GW713:=gW HB hg;have GE713:=gW HB hg;replace HB:=bS HB hb;clear hb hbox hg;obtain⟨hcz16_0,hcz16_1,hcz16_2,hcz16_3,hcz16_4,hcz16_5⟩:=cz6 BK713.out;obtain⟨hfz16_0,hfz16_1,hfz16_2,hfz16_3,hfz16_4,hfz16_5⟩:=fz6 BK713.out)|(refine g_C 110 ?_;refine g_D 22 ?_;generalize hG_:wpList _ _ _ _ _ _=G_))
    subst hG_
    by_cases c17:t715=true
    · subst c17
      replace H:=ifT H
      by_cases c18:(a0_3==0&&(a0_4==0&&(a0_5==0)))=true
      · rw[if_pos c18] at H
        have c18b0:(a0_3==0&&(a0_4==0&&(a0_5==0)))=true:=c18
        (try (have c18b1:decide (a0_3=0&&(a0_4==0&&(a0_5==0)))=true:=by simpa using c18))
        (try (have c18b2:(a0_3==0&&(a0_4==0&&(a0_5==0)))=true:=by simpa using c18))
        clear c18
        replace H:=bE H
        obtain⟨t716,A19,H⟩:=H
        obtain rfl:=o_I H
        go_wp2_with (first|(refine g_C 110 ?_;refine gL (some 22) Tryz.func110 #[.int .i64 a0_0] ?_;(with_reducible refine(impl_isSlot.calls A13.out).mono ?_);rintro e w' ⟨rfl,⟨nd,rfl⟩⟩;refine⟨_,rfl,?_⟩;obtain⟨hcz20_0,hcz20_1,hcz20_2,hcz20_3,hcz20_4,hcz20_5⟩:=cz6 BK713.out;obtain⟨hfz20_0,hfz20_1,hfz20_2,hfz20_3,hfz20_4,hfz20_5⟩:=fz6 BK713.out)|(go_at_call 106;(with_reducible refine(impl_within.calls A19.out).mono ?_);rintro e w' ⟨rfl,⟨nd,rfl⟩⟩))
        go_ret
        exact⟨TE,TB⟩
      · rw[if_neg c18] at H
        have c18b0:(a0_3==0&&(a0_4==0&&(a0_5==0)))=false:=by simpa using c18
        (try (have c18b1:decide (a0_3=0&&(a0_4==0&&(a0_5==0)))=false:=by simpa using c18))
        (try (have c18b2:(a0_3==0&&(a0_4==0&&(a0_5==0)))=false:=by simpa using c18))
        (try (have c18b3:¬(a0_3=0&&(a0_4==0&&(a0_5==0))):=by simpa using c18))
        clear c18
        obtain rfl:=o_I H
        go_wp2_with (first|(refine g_C 110 ?_;refine gL (some 22) Tryz.func110 #[.int .i64 a0_0] ?_;(with_reducible refine(impl_isSlot.calls A13.out).mono ?_);rintro e w' ⟨rfl,⟨nd,rfl⟩⟩;refine⟨_,rfl,?_⟩;obtain⟨hcz21_0,hcz21_1,hcz21_2,hcz21_3,hcz21_4,hcz21_5⟩:=cz6 BK713.out;obtain⟨hfz21_0,hfz21_1,hfz21_2,hfz21_3,hfz21_4,hfz21_5⟩:=fz6 BK713.out))
        go_ret
        exact⟨TE,TB⟩
    · replace c17:=b_F c17
      subst c17
      replace H:=ifF H
      obtain rfl:=o_I H
      go_wp2_with (first|(refine g_C 110 ?_;refine gL (some 22) Tryz.func110 #[.int .i64 a0_0] ?_;(with_reducible refine(impl_isSlot.calls A13.out).mono ?_);rintro e w' ⟨rfl,⟨nd,rfl⟩⟩;refine⟨_,rfl,?_⟩))
      go_ret
      exact⟨TE,TB⟩
def impl_DiskOk_1.f (a0_0:Int)(a0_1:Int)(l0_2:List Int)(a0_3:Int)(a0_4:Int)(a0_5:Int):Option (Bool):=(impl_isPut.f a0_0 a0_1 l0_2 a0_3 a0_4 a0_5).bind fun t718=>(some (!t718))
theorem impl_DiskOk_1.calls {a0_0:Int}{a0_1:Int}{A0_2:Option Addr}{c0_2:Nat}{l0_2:List Int}{a0_3:Int}{a0_4:Int}{a0_5:Int}{r:Bool}{w:World}(hr0_2:Kd.C (Kd.int .u8) w A0_2 l0_2.length l0_2)(hc0_2:l0_2.length≤c0_2)(h:impl_DiskOk_1.f a0_0 a0_1 l0_2 a0_3 a0_4 a0_5=some r):
    Calls Tryz.prog 104 #[.agg #[.int .i64 a0_0,.int .i64 a0_1,.slice A0_2 l0_2.length c0_2,.int .i64 a0_3,.int .i64 a0_4,.int .i64 a0_5]] w fun e w'=>e=.returned (.bool r)∧Below w.heap.size w w':=by
  have hu91:=Tryz.underlying91
  have HR0_2:=aM hr0_2
  have HC0_2:=aM hc0_2
  clear hr0_2 hc0_2
  have HB:=aM (Below.refl w.heap.size w)
  have H:=h
  clear h
  unfold impl_DiskOk_1.f at H
  replace H:=bE H
  obtain⟨t718,A2,H⟩:=H
  obtain rfl:=o_I H
  go_enter Tryz.func104,Tryz.ntmps104
  go_wp2_with (first|(refine g_D 1 ?_;refine gBx 1 #[.int .i64 a0_0,.int .i64 a0_1,.slice A0_2 l0_2.length c0_2,.int .i64 a0_3,.int .i64 a0_4,.int .i64 a0_5] 91 ?_;intro gb717 hg w3 hbox hb;have BK717:=aM (hbox);have GW717:=gW HB hg;have GE717:=gW HB hg;replace HB:=bS HB hb;clear hb hbox hg;obtain⟨hcz4_0,hcz4_1,hcz4_2,hcz4_3,hcz4_4,hcz4_5⟩:=cz6 BK717.out;obtain⟨hfz4_0,hfz4_1,hfz4_2,hfz4_3,hfz4_4,hfz4_5⟩:=fz6 BK717.out)|(refine g_C 105 ?_;refine gL (some 4) Tryz.func105 #[.agg #[.int .i64 a0_0,.int .i64 a0_1,.slice A0_2 l0_2.length c0_2,.int .i64 a0_3,.int .i64 a0_4,.int .i64 a0_5]] ?_;(with_reducible refine(impl_isPut.calls ?side1 ?side2 A2.out).mono ?_);(case side1=>have X_:=(Kd.C_below HR0_2.out HB.out);exact TC);(case side2=>exact HC0_2.out);rintro e w5 ⟨rfl,hb⟩;refine⟨_,rfl,?_⟩;replace BK717:=mB BK717 hb;replace HB:=bS HB hb;clear hb))
  go_ret
  exact⟨TE,TB⟩
def impl_Put_122.l0 :Nat→List (S91)→Int→Int→Option (Int)
  |0,_,_,_=>none
  |k+1,x0,x7,x8=>if x8<x7 then (if 0≤x8 then (if x8<(x0.length:Int) then ((impl_DiskOk_1.f ((rd_T91 x0 x8).f0) ((rd_T91 x0 x8).f1) ((rd_T91 x0 x8).f2) ((rd_T91 x0 x8).f3.f0) ((rd_T91 x0 x8).f3.f1) ((rd_T91 x0 x8).f3.f2)).bind fun t720=>(if t720=true then (some x8) else (impl_Put_122.l0 k x0 x7 (wrap64 (x8+1))))) else (none)) else (none)) else (some (-1))
def impl_Put_122.f (k:Nat)(l0:List (S91)):Option (Int):=impl_Put_122.l0 k l0 (l0.length:Int) 0
theorem impl_Put_122.mono_l :∀k,(∀y0 y1 y2,LeO (impl_Put_122.l0 k y0 y1 y2) (impl_Put_122.l0 (k+1) y0 y1 y2))
  |0=>fun _ _ _ r h=>by simp [impl_Put_122.l0] at h
  | k+1=>by
    have ih0:=impl_Put_122.mono_l k
    · intro y0 y1 y2
      unfold impl_Put_122.l0
      exact LM
theorem impl_Put_122.mono :∀a0 k,LeO (impl_Put_122.f k a0) (impl_Put_122.f (k+1) a0):=by
  intro a0 k;have ih0:=impl_Put_122.mono_l k;unfold impl_Put_122.f;exact LM
theorem impl_Put_122.calls {k:Nat}{A0:Option Addr}{c0:Nat}{l0:List (S91)}{r:Int}{w:World}(hr0:Kd.C k91 w A0 l0.length l0)(hc0:l0.length≤c0)(h:impl_Put_122.f k l0=some r):
    Calls Tryz.prog 122 #[.slice A0 l0.length c0,.func (.func 104) #[] #[]] w fun e w'=>e=.returned (.int .i64 r)∧Below w.heap.size w w':=by
  have hu91:=Tryz.underlying91
  have HR0:=aM hr0
  have HC0:=aM hc0
  clear hr0 hc0
  have HB:=aM (Below.refl w.heap.size w)
  have H:=h
  clear h
  unfold impl_Put_122.f at H
  have H':=aM H
  clear H
  go_enter Tryz.func122,Tryz.ntmps122
  go_wp2
  go_loopg [8] k (fun kq v8 w'=>∃(x8_1:Int),v8=.int .i64 x8_1∧Aside0 (impl_Put_122.l0 kq l0 (l0.length:Int) x8_1=some r)∧Aside0 (kq≤k)∧Aside0 (Below w.heap.size w w'))
  case atStart=>exact⟨(0),TF,H',⟨Nat.le_refl _⟩,⟨TB⟩⟩
  case round=>
    clear H'
    try clear c1
    try clear p2
    obtain⟨x8_1,rfl,HA,HK1,HB⟩:=hrel
    cases gk with
    |zero=>exact absurd HA.out (by simp [impl_Put_122.l0])
    | succ k1=>
      have H:=HA.out
      clear HA
      simp only[impl_Put_122.l0] at H
      by_cases c3:x8_1<(l0.length:Int)
      · rw[if_pos c3] at H
        have c3b0:decide (x8_1<(l0.length:Int))=true:=decide_eq_true c3
        clear c3
        replace H:=ifN H
        obtain⟨c4,H⟩:=H
        have c4b0:decide (0≤x8_1)=true:=decide_eq_true c4
        clear c4
        replace H:=ifN H
        obtain⟨c5,H⟩:=H
        have c5b0:decide (x8_1<(l0.length:Int))=true:=decide_eq_true c5
        clear c5
        replace H:=bE H
        obtain⟨t720,A6,H⟩:=H
        have p719:0≤(x8_1:Int):=DT
        have q719:x8_1<(l0.length:Int):=DT
        obtain⟨ad719,A719_2,c719_2,e719,hx719_0,hx719_1,hx719_2,hx719_3,hx719_4,hx719_5,hl719_2,hi719_2⟩:=at_T91 HR0.out x8_1 p719 q719
        cases e719
        replace hx719_0:=(HB.out.cell (World.block_lt_of_cell? w _ hx719_0)).trans hx719_0
        replace hx719_1:=(HB.out.cell (World.block_lt_of_cell? w _ hx719_1)).trans hx719_1
        replace hx719_2:=(HB.out.cell (World.block_lt_of_cell? w _ hx719_2)).trans hx719_2
        replace hx719_3:=(HB.out.cell (World.block_lt_of_cell? w _ hx719_3)).trans hx719_3
        replace hx719_4:=(HB.out.cell (World.block_lt_of_cell? w _ hx719_4)).trans hx719_4
        replace hx719_5:=(HB.out.cell (World.block_lt_of_cell? w _ hx719_5)).trans hx719_5
        have HR719_2:=aM hi719_2
        have HC719_2:=aM hl719_2
        clear hi719_2 hl719_2
        replace p719:=eq_true p719
        replace q719:=eq_true q719
        go_wp2_with (first|fail)
        (with_reducible refine(impl_DiskOk_1.calls ?side1 ?side2 A6.out).mono ?_)
        (case side1=>have X_:=(Kd.C_below HR719_2.out HB.out);exact TC)
        (case side2=>exact HC719_2.out)
        rintro e w8 ⟨rfl,hb⟩
        (try dsimp only)
        replace HB:=bS HB hb
        clear hb
        by_cases c7:t720=true
        · subst c7
          replace H:=ifT H
          obtain rfl:=o_I H
          go_wp2_with (first|fail)
          go_ret
          exact⟨TE,TB⟩
        · replace c7:=b_F c7
          subst c7
          replace H:=ifF H
          have H':=aM H
          clear H
          go_wp2_with (first|fail)
          go_roundg k1
          case measure=>have:=HK1.out;omega
          case rel=>exact⟨(wrap64 (x8_1+1)),TF,H',⟨by have:=HK1.out;omega⟩,⟨TB⟩⟩
      · rw[if_neg c3] at H
        have c3b0:decide (x8_1<(l0.length:Int))=false:=decide_eq_false c3
        clear c3
        obtain rfl:=o_I H
        go_wp2
        go_ret
        exact⟨TE,TB⟩
def impl_Put_103.f (k:Nat)(l0:List (S91)):Option (Bool):=(impl_Put_122.f k l0).bind fun t721=>(some (decide (t721≥0)))
theorem impl_Put_103.mono :∀a0 k,LeO (impl_Put_103.f k a0) (impl_Put_103.f (k+1) a0):=by
  intro a0 k;have m0_:=@impl_Put_122.mono;unfold impl_Put_103.f;exact LM
theorem impl_Put_103.calls {k:Nat}{A0:Option Addr}{c0:Nat}{l0:List (S91)}{r:Bool}{w:World}(hr0:Kd.C k91 w A0 l0.length l0)(hc0:l0.length≤c0)(h:impl_Put_103.f k l0=some r):
  Calls Tryz.prog 103 #[.slice A0 l0.length c0,.func (.func 104) #[] #[]] w fun e w'=>e=.returned (.bool r)∧Below w.heap.size w w':=by
 have HR0:=aM hr0;have HC0:=aM hc0;clear hr0 hc0;have HB:=aM (Below.refl w.heap.size w);have H:=h;clear h;unfold impl_Put_103.f at H;replace H:=bE H;obtain⟨t721,Aq1,H⟩:=H;obtain rfl:=o_I H;go_enter Tryz.func103,Tryz.ntmps103;go_wp2_with (first|(refine g_C 122 ?_;refine gL (some 7) Tryz.func122 #[.slice A0 l0.length c0,.func (.func 104) #[] #[]] ?_;(with_reducible refine(impl_Put_122.calls ?side1 ?side2 Aq1.out).mono ?_);(case side1=>have X_:=HR0.out;exact TC);(case side2=>exact HC0.out);rintro e w4 ⟨rfl,hb⟩;refine⟨_,rfl,?_⟩;replace HB:=bS HB hb;clear hb))
 go_ret
 exact⟨TE,TB⟩
attribute [local go_sem] min2_int min_two
theorem Zq31_0 {p:Prop}(h:p:=by repeat (first|exact(Kd.C_below HRq3.out TB)|(with_reducible refine Kd.C_alloc ?_ _)|(with_reducible refine Kd.C_drewN ?_ _)|(with_reducible refine Kd.C_drew ?_))):p:=h
def impl_DiskOk.f (k:Nat)(l0_0:List Int)(l0_1:List Int)(a0_2:Int)(a0_3:Int)(a0_4:Int)(l0_5:List (S91)):Option (Bool):=if (l0_0.length:Int)>240 then (some false) else (if (l0_1.length:Int)>240 then (some false) else ((impl_isRecord.f a0_2 a0_3 a0_4).bind fun t723=>(if t723=true then (if a0_3=0 then ((impl_Disk_slot.f a0_3 0).bind fun _=>(if a0_4>(l0_0.length:Int) then (some false) else (if (l0_5.length:Int)≤200 then ((impl_Put_103.f k l0_5).bind fun t724=>(some (!t724))) else (some false)))) else ((impl_Disk_slot.f a0_3 1).bind fun _=>(if a0_4>(l0_1.length:Int) then (some false) else (if (l0_5.length:Int)≤200 then ((impl_Put_103.f k l0_5).bind fun t725=>(some (!t725))) else (some false))))) else (some false))))
theorem impl_DiskOk.mono :∀a0 a1 a2 a3 a4 a5 k,LeO (impl_DiskOk.f k a0 a1 a2 a3 a4 a5) (impl_DiskOk.f (k+1) a0 a1 a2 a3 a4 a5):=by
  intro a0 a1 a2 a3 a4 a5 k;have m0_:=@impl_Put_103.mono;unfold impl_DiskOk.f;exact LM
def impl_DiskOk.T1 :Bool×List (List Nat×List Nat):=(true,[([],[]),([0],[0]),([1],[1]),([2],[2]),([3],[3]),([4],[4]),([5,4],[4,5]),([6,4],[4,6]),([7,4],[4,7]),([4,8],[4,8]),([9,4],[9]),([10],[10]),([11,10],[10,11]),([12,10,10],[10,12]),([13,10],[10,13]),([10,14],[10,14]),([15,13],[15]),([16],[16]),([17,16],[16,17]),([18,16],[16,18]),([16],[16]),([20,16],[16,20]),([21,16],[16,21]),([22,16,16],[16,22]),([23,16],[16,23]),([24,16],[16,24]),([25,16],[16,25]),([19,26,16],[16,19,26]),([16,27],[16,27])])
def impl_DiskOk.B1 :List Nat:=[0,1,3,7,15,31,63,127,255,511,1023,2047,4095,8191,16383,32767,65535,131071,262143,524287,131071,1179647,3276799,7471103,15859711,32636927,66191359,134217727,268435455]
theorem impl_DiskOk.tab1 :rtab .any (opsOf Tryz.f66 1)=impl_DiskOk.T1:=by kernel_rfl
theorem impl_DiskOk.bits1 :waitsOk impl_DiskOk.T1.2 impl_DiskOk.B1=true:=by kernel_rfl
theorem Yq31_2 {p:Prop}(h:p:=by
 refine ppq 15 18 ?_;refine ppq 16 19 ?_;refine pxq 17 20 ?_;refine pxq 18 21 ?_;refine pxq 19 22 ?_;refine pxq 20 23 ?_;refine pxq 21 24 ?_;refine pxq 22 25 ?_;refine pxq 23 26 ?_;refine pxq 24 27 ?_;refine pxq 25 28 ?_;refine pxq 26 29 ?_;refine pxq 27 30 ?_;refine ppq 28 31 ?_;refine done_ (done_of HT_.out (by kernel_rfl)) ?_;try go_wp2
 go_ret
 exact⟨TE,TB⟩):p:=h
theorem Yq31_1 {p:Prop}(h:p:=by
 clear ai;obtain rfl:=o_I H;go_enter Tryz.func66,Tryz.ntmps66;try go_wp2_with (first|(refine g_D 1 ?_;(try (refine gate_guard (by rfl) ?_;dsimp only));refine gBx 1 #[.slice ap af.length ao,.slice an ae.length am,.int .i64 ag,.int .i64 ab,.int .i64 ac,.slice ak ad.length al] 39 ?_;intro ah hg wq1 hbox hb;have aa:=aM (hbox);have GWq1:=gW HB hg;have GEq1:=gW HB hg;replace HB:=bS HB hb;clear hb hbox hg))
 replace aa:=bD aa;replace HB:=aM (below_drew1 HB.out);refine st_ (n:=29) (ds:=[]) (Array.replicate 29 false) (hK6 aa.out) (by kernel_rfl) rfl rfl (fun hHeld=>?_);refine with_tabW impl_DiskOk.tab1 impl_DiskOk.bits1 (fun HT_ HW_=>?_);generalize wq1.drew=wq2 at aa HB hHeld ⊢;refine ppq 0 3 ?_;refine ptq 1 4 ?_;refine ppq 2 5 ?_;refine ppq 3 6 ?_;refine ppq 4 7 ?_;refine ppq 5 8 ?_;refine ptq 6 9 ?_;refine ppq 7 10 ?_;refine ppq 8 11 ?_;refine ppq 9 12 ?_;refine ppq 10 13 ?_;refine ppq 11 14 ?_;refine ptq 12 15 ?_;refine poq 13 16 (fun K hK=>?_);refine gG Tryz.func101 #[.agg #[.int .i64 ag,.int .i64 ab,.int .i64 ac]] ?_;with_reducible refine(impl_isRecord.calls Aq1.out).mono ?_
 rintro e wq3 ⟨rfl,hb⟩;refine⟨_,rfl,?_⟩;replace aa:=mB aa hb;replace HB:=bS HB hb;(try clear hb);refine hK.out _ _ (cz6 aa.out) (fun hHeld=>?_);clear hK K;refine nR ?_;refine ppq 14 17 ?_;refine ppq 15 18 ?_;refine ppq 16 19 ?_;refine ppq 17 20 ?_;refine ppq 18 21 ?_;refine ppq 20 23 ?_;refine ppq 21 24 ?_;refine ptq 19 22 ?_;refine ptq 22 25 ?_;refine poq 23 26 (fun K hK=>?_);refine gG Tryz.func102 #[.pointer (some ⟨ah,0,none⟩),.int .i64 ab] ?_;with_reducible refine(impl_Disk_slot.calls _ Aq2.out).mono ?_
 rintro e w' ⟨rfl,⟨nd,rfl⟩⟩;refine⟨_,rfl,?_⟩;refine hK.out _ _ (cz6 aa.out) (fun hHeld=>?_);clear hK K;refine nR ?_;refine ppq 24 27 ?_;refine ptq 25 28 ?_;refine ppq 26 29 ?_;refine ppq 27 30 ?_;refine ppq 28 31 ?_;refine done_ (done_of HT_.out (by kernel_rfl)) ?_;try go_wp2
 go_ret
 exact⟨TE,TB⟩):p:=h
theorem Yq31_0 {p:Prop}(h:p:=by
 clear ai;go_enter Tryz.func66,Tryz.ntmps66;try go_wp2_with (first|(refine g_D 1 ?_;(try (refine gate_guard (by rfl) ?_;dsimp only));refine gBx 1 #[.slice ap af.length ao,.slice an ae.length am,.int .i64 ag,.int .i64 ab,.int .i64 ac,.slice ak ad.length al] 39 ?_;intro ah hg wq1 hbox hb;have aa:=aM (hbox);have GWq1:=gW HB hg;have GEq1:=gW HB hg;replace HB:=bS HB hb;clear hb hbox hg))
 replace aa:=bD aa;replace HB:=aM (below_drew1 HB.out);refine st_ (n:=29) (ds:=[]) (Array.replicate 29 false) (hK6 aa.out) (by kernel_rfl) rfl rfl (fun hHeld=>?_);refine with_tabW impl_DiskOk.tab1 impl_DiskOk.bits1 (fun HT_ HW_=>?_);generalize wq1.drew=wq2 at aa HB hHeld ⊢;refine ppq 0 3 ?_;refine ptq 1 4 ?_;refine ppq 2 5 ?_;refine ppq 3 6 ?_;refine ppq 4 7 ?_;refine ppq 5 8 ?_;refine ptq 6 9 ?_;refine ppq 7 10 ?_;refine ppq 8 11 ?_;refine ppq 9 12 ?_;refine ppq 10 13 ?_;refine ppq 11 14 ?_;refine ptq 12 15 ?_;refine poq 13 16 (fun K hK=>?_);refine gG Tryz.func101 #[.agg #[.int .i64 ag,.int .i64 ab,.int .i64 ac]] ?_;with_reducible refine(impl_isRecord.calls Aq1.out).mono ?_
 rintro e wq3 ⟨rfl,hb⟩;refine⟨_,rfl,?_⟩;replace aa:=mB aa hb;replace HB:=bS HB hb;(try clear hb);refine hK.out _ _ (cz6 aa.out) (fun hHeld=>?_);clear hK K;refine nR ?_;refine ppq 14 17 ?_;refine ppq 15 18 ?_;refine ppq 16 19 ?_;refine ppq 17 20 ?_;refine ppq 18 21 ?_;refine ppq 20 23 ?_;refine ppq 21 24 ?_;refine ptq 19 22 ?_;refine ptq 22 25 ?_;refine poq 23 26 (fun K hK=>?_);refine gG Tryz.func102 #[.pointer (some ⟨ah,0,none⟩),.int .i64 ab] ?_;with_reducible refine(impl_Disk_slot.calls _ Aq2.out).mono ?_
 rintro e w' ⟨rfl,⟨nd,rfl⟩⟩;refine⟨_,rfl,?_⟩;refine hK.out _ _ (cz6 aa.out) (fun hHeld=>?_);clear hK K;refine nR ?_;refine ppq 24 27 ?_;refine ptq 25 28 ?_;refine ppq 26 29 ?_;refine ppq 27 30 ?_;refine ppq 28 31 ?_;refine done_ (done_of HT_.out (by kernel_rfl)) ?_;obtain⟨hczq1,hczq2,hczq3,hczq4,hczq5,hczq6⟩:=cz6 aa.out;obtain⟨hfzq1,hfzq2,hfzq3,hfzq4,hfzq5,hfzq6⟩:=fz6 aa.out
 by_cases aj:(ad.length:Int)≤200
 ·rw[if_pos aj] at H;have av:decide ((ad.length:Int)≤200)=true:=decide_eq_true aj;have ar:decide (ad.length≤200)=true:=decide_eq_true (by omega);clear aj;replace H:=bE H;obtain⟨t724,Aq3,H⟩:=H;obtain rfl:=o_I H;try go_wp2_with (first|(go_at_call 103;(with_reducible refine(impl_Put_103.calls ?side1 ?side2 Aq3.out).mono ?_);(case side1=>exact Zq31_0);(case side2=>exact HCq3.out);rintro e wq4 ⟨rfl,hb⟩;replace aa:=mB aa hb;replace HB:=bS HB hb;clear hb))
  go_ret
  exact⟨TE,TB⟩
 ·rw[if_neg aj] at H;have av:decide ((ad.length:Int)≤200)=false:=decide_eq_false aj;have ar:decide (ad.length≤200)=false:=decide_eq_false (by omega);clear aj;obtain rfl:=o_I H;try go_wp2
  go_ret
  exact⟨TE,TB⟩):p:=h
theorem impl_DiskOk.calls {k:Nat}{ap:Option Addr}{ao:Nat}{af:List Int}{an:Option Addr}{am:Nat}{ae:List Int}{ag:Int}{ab:Int}{ac:Int}{ak:Option Addr}{al:Nat}{ad:List (S91)}{r:Bool}{w:World}(aw:Kd.C (Kd.int .u8) w ap af.length af)(aA:af.length≤ao)(az:Kd.C (Kd.int .u8) w an ae.length ae)(ay:ae.length≤am)(ax:Kd.C k91 w ak ad.length ad)(aB:ad.length≤al)(h:impl_DiskOk.f k af ae ag ab ac ad=some r):
  Calls Tryz.prog 66 #[.agg #[.slice ap af.length ao,.slice an ae.length am,.int .i64 ag,.int .i64 ab,.int .i64 ac,.slice ak ad.length al]] w fun e w'=>e=.returned (.bool r)∧Below w.heap.size w w':=by
 have huq1:=Tryz.underlying39;have huq2:=Tryz.underlying36;have HRq1:=aM aw;have HCq1:=aM aA;clear aw aA;have HRq2:=aM az;have HCq2:=aM ay;clear az ay;have HRq3:=aM ax;have HCq3:=aM aB;clear ax aB;have HB:=aM (Below.refl w.heap.size w);have H:=h;clear h;unfold impl_DiskOk.f at H
 by_cases cq1:(af.length:Int)>240
 ·rw[if_pos cq1] at H;have cq2:decide (240<(af.length:Int))=true:=decide_eq_true cq1;have cq3:decide (240<af.length)=true:=decide_eq_true (by omega);clear cq1;obtain rfl:=o_I H;go_enter Tryz.func66,Tryz.ntmps66;try go_wp2_with (first|(refine g_D 1 ?_;(try (refine gate_guard (by rfl) ?_;dsimp only));refine gBx 1 #[.slice ap af.length ao,.slice an ae.length am,.int .i64 ag,.int .i64 ab,.int .i64 ac,.slice ak ad.length al] 39 ?_;intro ah hg wq1 hbox hb;have aa:=aM (hbox);have GWq1:=gW HB hg;have GEq1:=gW HB hg;replace HB:=bS HB hb;clear hb hbox hg))
  replace aa:=bD aa;replace HB:=aM (below_drew1 HB.out);refine st_ (n:=29) (ds:=[]) (Array.replicate 29 false) (hK6 aa.out) (by kernel_rfl) rfl rfl (fun hHeld=>?_);refine with_tabW impl_DiskOk.tab1 impl_DiskOk.bits1 (fun HT_ HW_=>?_);generalize wq1.drew=wq2 at aa HB hHeld ⊢;refine ppq 0 3 ?_;refine ptq 1 4 ?_;refine ppq 2 5 ?_;refine ppq 3 6 ?_;refine ppq 4 7 ?_;refine pxq 5 8 ?_;refine pxq 6 9 ?_;refine pxq 7 10 ?_;refine pxq 8 11 ?_;refine ppq 9 12 ?_;refine ppq 10 13 ?_;refine pxq 11 14 ?_;refine pxq 12 15 ?_;refine pxq 13 16 ?_;refine pxq 14 17 ?_;exact Yq31_2
 ·rw[if_neg cq1] at H;have cq2:decide (240<(af.length:Int))=false:=decide_eq_false cq1;have cq3:decide (240<af.length)=false:=decide_eq_false (by omega);clear cq1
  by_cases cq4:(ae.length:Int)>240
  ·rw[if_pos cq4] at H;have cq5:decide (240<(ae.length:Int))=true:=decide_eq_true cq4;have cq6:decide (240<ae.length)=true:=decide_eq_true (by omega);clear cq4;obtain rfl:=o_I H;go_enter Tryz.func66,Tryz.ntmps66;try go_wp2_with (first|(refine g_D 1 ?_;(try (refine gate_guard (by rfl) ?_;dsimp only));refine gBx 1 #[.slice ap af.length ao,.slice an ae.length am,.int .i64 ag,.int .i64 ab,.int .i64 ac,.slice ak ad.length al] 39 ?_;intro ah hg wq1 hbox hb;have aa:=aM (hbox);have GWq1:=gW HB hg;have GEq1:=gW HB hg;replace HB:=bS HB hb;clear hb hbox hg))
   replace aa:=bD aa;replace HB:=aM (below_drew1 HB.out);refine st_ (n:=29) (ds:=[]) (Array.replicate 29 false) (hK6 aa.out) (by kernel_rfl) rfl rfl (fun hHeld=>?_);refine with_tabW impl_DiskOk.tab1 impl_DiskOk.bits1 (fun HT_ HW_=>?_);generalize wq1.drew=wq2 at aa HB hHeld ⊢;refine ppq 0 3 ?_;refine ptq 1 4 ?_;refine ppq 2 5 ?_;refine ppq 3 6 ?_;refine ppq 4 7 ?_;refine ppq 5 8 ?_;refine ptq 6 9 ?_;refine ppq 7 10 ?_;refine ppq 8 11 ?_;refine ppq 9 12 ?_;refine ppq 10 13 ?_;refine pxq 11 14 ?_;refine pxq 12 15 ?_;refine pxq 13 16 ?_;refine pxq 14 17 ?_;exact Yq31_2
  ·rw[if_neg cq4] at H;have cq5:decide (240<(ae.length:Int))=false:=decide_eq_false cq4;have cq6:decide (240<ae.length)=false:=decide_eq_false (by omega);clear cq4;replace H:=bE H;obtain⟨t723,Aq1,H⟩:=H
   by_cases cq7:t723=true
   ·subst cq7;replace H:=ifT H
    by_cases cq8:ab=0
    ·rw[if_pos cq8] at H;have cq9:(ab==0)=true:=beq_iff_eq.mpr cq8;have cq10:(ab != 0)=false:=bne_eq_false_iff_eq.mpr cq8;clear cq8;replace H:=bE H;obtain⟨_,Aq2,H⟩:=H
     by_cases ai:ac>(af.length:Int)
     ·rw[if_pos ai] at H;have au:decide ((af.length:Int)<ac)=true:=decide_eq_true ai;exact Yq31_1
     ·rw[if_neg ai] at H;have au:decide ((af.length:Int)<ac)=false:=decide_eq_false ai;exact Yq31_0
    ·rw[if_neg cq8] at H;have cq9:(ab==0)=false:=beq_eq_false_iff_ne.mpr cq8;have cq10:(ab != 0)=true:=bne_iff_ne.mpr cq8;replace H:=bE H;obtain⟨_,Aq2,H⟩:=H
     by_cases ai:ac>(ae.length:Int)
     ·rw[if_pos ai] at H;have au:decide ((ae.length:Int)<ac)=true:=decide_eq_true ai;exact Yq31_1
     ·rw[if_neg ai] at H;have au:decide ((ae.length:Int)<ac)=false:=decide_eq_false ai;exact Yq31_0
   ·replace cq7:=b_F cq7;subst cq7;replace H:=ifF H;obtain rfl:=o_I H;go_enter Tryz.func66,Tryz.ntmps66;try go_wp2_with (first|(refine g_D 1 ?_;(try (refine gate_guard (by rfl) ?_;dsimp only));refine gBx 1 #[.slice ap af.length ao,.slice an ae.length am,.int .i64 ag,.int .i64 ab,.int .i64 ac,.slice ak ad.length al] 39 ?_;intro ah hg wq1 hbox hb;have aa:=aM (hbox);have GWq1:=gW HB hg;have GEq1:=gW HB hg;replace HB:=bS HB hb;clear hb hbox hg))
    replace aa:=bD aa;replace HB:=aM (below_drew1 HB.out);refine st_ (n:=29) (ds:=[]) (Array.replicate 29 false) (hK6 aa.out) (by kernel_rfl) rfl rfl (fun hHeld=>?_);refine with_tabW impl_DiskOk.tab1 impl_DiskOk.bits1 (fun HT_ HW_=>?_);generalize wq1.drew=wq2 at aa HB hHeld ⊢;refine ppq 0 3 ?_;refine ptq 1 4 ?_;refine ppq 2 5 ?_;refine ppq 3 6 ?_;refine ppq 4 7 ?_;refine ppq 5 8 ?_;refine ptq 6 9 ?_;refine ppq 7 10 ?_;refine ppq 8 11 ?_;refine ppq 9 12 ?_;refine ppq 10 13 ?_;refine ppq 11 14 ?_;refine ptq 12 15 ?_;refine poq 13 16 (fun K hK=>?_);refine gG Tryz.func101 #[.agg #[.int .i64 ag,.int .i64 ab,.int .i64 ac]] ?_;with_reducible refine(impl_isRecord.calls Aq1.out).mono ?_
    rintro e wq3 ⟨rfl,hb⟩;refine⟨_,rfl,?_⟩;replace aa:=mB aa hb;replace HB:=bS HB hb;(try clear hb);refine hK.out _ _ (cz6 aa.out) (fun hHeld=>?_);clear hK K;refine nR ?_;refine ppq 14 17 ?_;exact Yq31_2
def impl_Slice.f (l0:List Int)(a1:Int)(a2:Int):Option (List Int×Bool):=(impl_within.f a1 0 (l0.length:Int)).bind fun t726=>(if t726=true then ((impl_within.f a2 0 (wrap64 ((l0.length:Int) - a1))).bind fun t727=>(if t727=true then (if 0≤a1 then (if a1≤(wrap64 (a1+a2)) then (if (wrap64 (a1+a2))≤(l0.length:Int) then ((impl_cloned.f ((l0.take ((wrap64 (a1+a2)):Int).toNat).drop (a1:Int).toNat)).bind fun t729=>(some (t729,true))) else (none)) else (none)) else (none)) else (some (([]:List Int),false)))) else (some (([]:List Int),false)))
theorem impl_Slice.calls {A0:Option Addr}{c0:Nat}{l0:List Int}{a1:Int}{a2:Int}{r1:List Int}{r2:Bool}{w:World}(hr0:Kd.C (Kd.int .u8) w A0 l0.length l0)(hc0:l0.length≤c0)(h:impl_Slice.f l0 a1 a2=some (r1,r2)):
    Calls Tryz.prog 109 #[.slice A0 l0.length c0,.int .i64 a1,.int .i64 a2] w fun e w'=>∃v0_:Value,e=.returned (.tuple #[v0_,.bool r2])∧Kd.R (Kd.int .u8) 5 w' w.heap.size (fun _=>True) v0_ r1∧Below w.heap.size w w':=by
  have HR0:=aM hr0
  have HC0:=aM hc0
  clear hr0 hc0
  have HB:=aM (Below.refl w.heap.size w)
  have H:=h
  clear h
  unfold impl_Slice.f at H
  replace H:=bE H
  obtain⟨t726,A4,H⟩:=H
  by_cases c5:t726=true
  · subst c5
    replace H:=ifT H
    replace H:=bE H
    obtain⟨t727,A6,H⟩:=H
    by_cases c7:t727=true
    · subst c7
      replace H:=ifT H
      replace H:=ifN H
      obtain⟨c8,H⟩:=H
      have c8b0:=eq_true c8
      have c8b1:decide (0≤a1)=true:=decide_eq_true c8
      clear c8
      replace H:=ifN H
      obtain⟨c9,H⟩:=H
      have c9b0:=eq_true c9
      have c9b1:decide (a1≤(wrap64 (a1+a2)))=true:=decide_eq_true c9
      replace H:=ifN H
      obtain⟨c10,H⟩:=H
      have c10b0:=eq_true c10
      have c10b1:decide ((wrap64 (a1+a2))≤(l0.length:Int))=true:=decide_eq_true c10
      replace H:=bE H
      obtain⟨t729,A11,H⟩:=H
      simp only[Option.some.injEq,Prod.mk.injEq] at H
      obtain⟨rfl,rfl⟩:=H
      go_enter Tryz.func109,Tryz.ntmps109
      go_wp2_with (first|(refine g_C 106 ?_;refine gL (some 11) Tryz.func106 #[.int .i64 a1,.int .i64 0,.int .i64 (l0.length:Int)] ?_;(with_reducible refine(impl_within.calls A4.out).mono ?_);rintro e w' ⟨rfl,⟨nd,rfl⟩⟩;refine⟨_,rfl,?_⟩)|(go_at_call 106;(with_reducible refine(impl_within.calls A6.out).mono ?_);rintro e w' ⟨rfl,⟨nd,rfl⟩⟩;obtain⟨i012,hi012,_,hsz12,_⟩:=info_parts info5;obtain⟨A12,hcut12,hA12,hC12⟩:=print_mid_of (P:=Tryz.prog) (Value.int .u8) 0 22 5 .i64 .i64 Tryz.underlying22 hi012 hsz12 A0 c0 l0 a1 (wrap64 (a1+a2)) DT (by first|omega|exact DT) DT HC0.out;have HR728:=aM (Kd.C_of_reads (h1:=fun _=>rfl) (hA12 _ (Kd.reads_of_C HR0.out)));have HC728:=aM hC12;clear hA12 hC12 hi012 hsz12)|(refine g_C 74 ?_;refine goesL_ (some 28) rfl rfl Tryz.func74 (by kernel_rfl) rfl #[.slice A12 ((l0.take ((wrap64 (a1+a2)):Int).toNat).drop (a1:Int).toNat).length (c0 - a1.toNat)] rfl (by (try simp only[List.map_toArray,List.map_cons,List.map_nil]);first|done|(rw[show((l0.take ((wrap64 (a1+a2)):Int).toNat).drop (a1:Int).toNat).length=((wrap64 (a1+a2)).toNat - a1.toNat) from(by rw[List.length_drop,List.length_take];have h_:((wrap64 (a1+a2)):Int)≤(l0.length:Int):=DT;omega)]<;>rfl)|rfl|(simp only[List.length_drop,List.length_take];rfl)) ?_;(with_reducible refine(impl_cloned.calls ?side1 ?side2 A11.out).mono ?_);(case side1=>have X_:=HR728.out;exact TC);(case side2=>exact HC728.out);rintro e w13 ⟨v730,rfl,ho0,hb⟩;refine⟨_,rfl,?_⟩;have HO731:=aM (Kd.R_lower ho0 (below_size TB));replace HB:=bS HB hb;clear ho0 hb))
      go_ret2
      exact⟨_,TE,by have X_:=HO731.out;exact TR,TB⟩
    · replace c7:=b_F c7
      subst c7
      replace H:=ifF H
      simp only[Option.some.injEq,Prod.mk.injEq] at H
      obtain⟨rfl,rfl⟩:=H
      go_enter Tryz.func109,Tryz.ntmps109
      go_wp2_with (first|(refine g_C 106 ?_;refine gL (some 11) Tryz.func106 #[.int .i64 a1,.int .i64 0,.int .i64 (l0.length:Int)] ?_;(with_reducible refine(impl_within.calls A4.out).mono ?_);rintro e w' ⟨rfl,⟨nd,rfl⟩⟩;refine⟨_,rfl,?_⟩)|(go_at_call 106;(with_reducible refine(impl_within.calls A6.out).mono ?_);rintro e w' ⟨rfl,⟨nd,rfl⟩⟩))
      go_ret2
      exact⟨_,TE,by first|exact Kd.R_nil _ _ _ _ _|exact Kd.N_nil _ _ _ _ _|exact Kd.V_nil _ _ _ _ _|exact Kd.Q_nil _ _ _ _ _|exact Kd.S_nil _ _ _ _ _,TB⟩
  · replace c5:=b_F c5
    subst c5
    replace H:=ifF H
    simp only[Option.some.injEq,Prod.mk.injEq] at H
    obtain⟨rfl,rfl⟩:=H
    go_enter Tryz.func109,Tryz.ntmps109
    go_wp2_with (first|(refine g_C 106 ?_;refine gL (some 11) Tryz.func106 #[.int .i64 a1,.int .i64 0,.int .i64 (l0.length:Int)] ?_;(with_reducible refine(impl_within.calls A4.out).mono ?_);rintro e w' ⟨rfl,⟨nd,rfl⟩⟩;refine⟨_,rfl,?_⟩))
    go_ret2
    exact⟨_,TE,by first|exact Kd.R_nil _ _ _ _ _|exact Kd.N_nil _ _ _ _ _|exact Kd.V_nil _ _ _ _ _|exact Kd.Q_nil _ _ _ _ _|exact Kd.S_nil _ _ _ _ _,TB⟩
def impl_BlockAt.f (l0:List Int)(a1:Int)(a2:Int):Option (List Int×Bool):=(impl_SpanOf.f a1 (l0.length:Int) a2).bind fun bt732=>(if bt732.2=0 then (some (([]:List Int),false)) else ((impl_Slice.f l0 bt732.1 bt732.2).bind fun bt734=>(some (bt734.1,bt734.2))))
theorem impl_BlockAt.calls {A0:Option Addr}{c0:Nat}{l0:List Int}{a1:Int}{a2:Int}{r1:List Int}{r2:Bool}{w:World}(hr0:Kd.C (Kd.int .u8) w A0 l0.length l0)(hc0:l0.length≤c0)(h:impl_BlockAt.f l0 a1 a2=some (r1,r2)):
    Calls Tryz.prog 69 #[.slice A0 l0.length c0,.int .i64 a1,.int .i64 a2] w fun e w'=>∃v0_:Value,e=.returned (.tuple #[v0_,.bool r2])∧Kd.R (Kd.int .u8) 5 w' w.heap.size (fun _=>True) v0_ r1∧Below w.heap.size w w':=by
  have HR0:=aM hr0
  have HC0:=aM hc0
  clear hr0 hc0
  have HB:=aM (Below.refl w.heap.size w)
  have H:=h
  clear h
  unfold impl_BlockAt.f at H
  replace H:=bE H
  obtain⟨⟨tq1,tq2⟩,A4,H⟩:=H
  dsimp only at H
  by_cases c5:tq2=0
  ·rw[if_pos c5] at H
   have cq1:(tq2==0)=true:=beq_iff_eq.mpr c5
   have cq2:(tq2 != 0)=false:=bne_eq_false_iff_eq.mpr c5
   clear c5
   simp only[Option.some.injEq,Prod.mk.injEq] at H
   obtain⟨rfl,rfl⟩:=H
   go_enter Tryz.func69,Tryz.ntmps69
   go_wp2_with (first|(refine g_C 108 ?_;refine gL (some 15) Tryz.func108 #[.int .i64 a1,.int .i64 (l0.length:Int),.int .i64 a2] ?_;(with_reducible refine(impl_SpanOf.calls A4.out).mono ?_);rintro e wq1 ⟨rfl,hb⟩;refine⟨_,rfl,?_⟩;replace HB:=bS HB hb;clear hb))
   go_ret2
   exact⟨_,TE,by first|exact Kd.R_nil _ _ _ _ _|exact Kd.N_nil _ _ _ _ _|exact Kd.V_nil _ _ _ _ _|exact Kd.Q_nil _ _ _ _ _|exact Kd.S_nil _ _ _ _ _,TB⟩
  ·rw[if_neg c5] at H
   have cq1:(tq2==0)=false:=beq_eq_false_iff_ne.mpr c5
   have cq2:(tq2 != 0)=true:=bne_iff_ne.mpr c5
   replace H:=bE H
   obtain⟨⟨tq3,tq4⟩,Aq1,H⟩:=H
   dsimp only at H
   simp only[Option.some.injEq,Prod.mk.injEq] at H
   obtain⟨rfl,rfl⟩:=H
   go_enter Tryz.func69,Tryz.ntmps69
   go_wp2_with (first|(refine g_C 108 ?_;refine gL (some 15) Tryz.func108 #[.int .i64 a1,.int .i64 (l0.length:Int),.int .i64 a2] ?_;(with_reducible refine(impl_SpanOf.calls A4.out).mono ?_);rintro e wq1 ⟨rfl,hb⟩;refine⟨_,rfl,?_⟩;replace HB:=bS HB hb;clear hb)|(refine g_C 109 ?_;refine gL (some 23) Tryz.func109 #[.slice A0 l0.length c0,.int .i64 tq1,.int .i64 tq2] ?_;(with_reducible refine(impl_Slice.calls ?side1 ?side2 Aq1.out).mono ?_);(case side1=>have X_:=(Kd.C_below HR0.out HB.out);exact TC);(case side2=>exact HC0.out);rintro e wq2 ⟨vq1,rfl,ho0,hb⟩;refine⟨_,rfl,?_⟩;have HOq1:=aM (Kd.R_lower ho0 (below_size TB));replace HB:=bS HB hb;clear ho0 hb))
   go_ret2
   exact⟨_,TE,by have X_:=HOq1.out;exact TR,TB⟩
end Go.Proofs.YtjgmkkogmfogbaaGreat.Q
