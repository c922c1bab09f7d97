/- Functions of the program as plain Lean functions, and that a call of each comes to what its function tells. -/
import Derived.Test.YtjgmkkogmfogbaaGreatQ5
import Derived.Test.YtjgmkkogmfogbaaGreatQ1
import Derived.Test.YtjgmkkogmfogbaaGreatQ42
import Derived.Test.YtjgmkkogmfogbaaGreatQ21
import Derived.Test.YtjgmkkogmfogbaaGreatQ29
set_option maxHeartbeats 40000000
set_option maxRecDepth 100000
namespace Go.Proofs.YtjgmkkogmfogbaaGreat.Q
open Go.RowKit Go.Proofs.YtjgmkkogmfogbaaGreatW.PrintWords Go.Proofs.YtjgmkkogmfogbaaGreatW.PrintLast Go.Proofs.YtjgmkkogmfogbaaGreatW.PrintMore
attribute [local go_sem] min2_int min_two
set_option linter.unusedVariables false
set_option linter.unusedSimpArgs false
attribute [local go_sem high] eqA36
def impl_isSlot.f (a:Int):Option (Bool):=if a=0 then (some true) else (some (a==1))
theorem impl_isSlot.calls {a0:Int}{r:Bool}{w:World}(h:impl_isSlot.f a0=some r):
    Calls Tryz.prog 110 #[.int .i64 a0] w fun e w'=>e=.returned (.bool r)∧Drawn0 w w':=by
  have H:=h
  clear h
  unfold impl_isSlot.f at H
  by_cases c2:a0=0
  · rw[if_pos c2] at H
    have c2b0:(a0==0)=true:=beq_iff_eq.mpr c2
    have c2b1:(a0 != 0)=false:=bne_eq_false_iff_eq.mpr c2
    clear c2
    obtain rfl:=o_I H
    go_enter Tryz.func110,Tryz.ntmps110
    go_wp2
    go_ret
    exact⟨by first|rfl|(simp;done)|(simp [*];done),TD⟩
  · rw[if_neg c2] at H
    have c2b0:(a0==0)=false:=beq_eq_false_iff_ne.mpr c2
    have c2b1:(a0 != 0)=true:=bne_iff_ne.mpr c2
    obtain rfl:=o_I H
    go_enter Tryz.func110,Tryz.ntmps110
    go_wp2
    go_ret
    exact⟨by first|rfl|(simp;done)|(simp [*];done),TD⟩
def impl_isGen.f (b:Int):Option (Bool):=(impl_within.f b 0 1000000).bind fun a=>(some a)
theorem impl_isGen.calls {a0:Int}{r:Bool}{w:World}(h:impl_isGen.f a0=some r):
    Calls Tryz.prog 121 #[.int .i64 a0] w fun e w'=>e=.returned (.bool r)∧Drawn0 w w':=by
  have H:=h
  clear h
  unfold impl_isGen.f at H
  replace H:=bE H
  obtain⟨t708,A2,H⟩:=H
  obtain rfl:=o_I H
  go_enter Tryz.func121,Tryz.ntmps121
  go_wp2_with (first|(refine g_C 106 ?_;refine gL (some 4) Tryz.func106 #[.int .i64 a0,.int .i64 0,.int .i64 1000000] ?_;(with_reducible refine(impl_within.calls A2.out).mono ?_);rintro e w' ⟨rfl,⟨nd,rfl⟩⟩;refine⟨_,rfl,?_⟩))
  go_ret
  exact⟨by first|rfl|(simp;done)|(simp [*];done),TD⟩
def impl_isRecord.f (a:Int)(b:Int)(c:Int):Option (Bool):=(impl_isGen.f a).bind fun d=>(if d=true then ((impl_isSlot.f b).bind fun e=>(if e=true then ((impl_within.f c 0 240).bind fun f=>(some f)) else (some false))) else (some false))
theorem impl_isRecord.calls {a0_0:Int}{a0_1:Int}{a0_2:Int}{r:Bool}{w:World}(h:impl_isRecord.f a0_0 a0_1 a0_2=some r):
    Calls Tryz.prog 101 #[.agg #[.int .i64 a0_0,.int .i64 a0_1,.int .i64 a0_2]] w fun e w'=>e=.returned (.bool r)∧Below w.heap.size w w':=by
  have hu36:=Tryz.underlying36
  have HB:=aM (Below.refl w.heap.size w)
  have H:=h
  clear h
  unfold impl_isRecord.f at H
  replace H:=bE H
  obtain⟨t710,A2,H⟩:=H
  go_enter Tryz.func101,Tryz.ntmps101
  go_wp2_with (first|(refine g_D 1 ?_;refine gBx 1 #[.int .i64 a0_0,.int .i64 a0_1,.int .i64 a0_2] 36 ?_;intro gb709 hg w4 hbox hb;have BK709:=aM (hbox);have GW709:=gW HB hg;have GE709:=gW HB hg;replace HB:=bS HB hb;clear hb hbox hg;obtain⟨hcz5_0,hcz5_1,hcz5_2⟩:=cz3 BK709.out;obtain⟨hfz5_0,hfz5_1,hfz5_2⟩:=fz3 BK709.out)|(refine g_C 121 ?_;refine g_D 5 ?_;generalize hG_:wpList _ _ _ _ _ _=G_))
  subst hG_
  by_cases c6:t710=true
  · subst c6
    replace H:=ifT H
    replace H:=bE H
    obtain⟨t711,A7,H⟩:=H
    by_cases c8:t711=true
    · subst c8
      replace H:=ifT H
      replace H:=bE H
      obtain⟨t712,A9,H⟩:=H
      obtain rfl:=o_I H
      go_wp2_with (first|(refine g_C 121 ?_;refine gL (some 5) Tryz.func121 #[.int .i64 a0_0] ?_;(with_reducible refine(impl_isGen.calls A2.out).mono ?_);rintro e w' ⟨rfl,⟨nd,rfl⟩⟩;refine⟨_,rfl,?_⟩;obtain⟨hcz10_0,hcz10_1,hcz10_2⟩:=cz3 BK709.out;obtain⟨hfz10_0,hfz10_1,hfz10_2⟩:=fz3 BK709.out)|(go_at_call 110;(with_reducible refine(impl_isSlot.calls A7.out).mono ?_);rintro e w' ⟨rfl,⟨nd,rfl⟩⟩)|(go_at_call 106;(with_reducible refine(impl_within.calls A9.out).mono ?_);rintro e w' ⟨rfl,⟨nd,rfl⟩⟩))
      go_ret
      exact⟨TE,TB⟩
    · replace c8:=b_F c8
      subst c8
      replace H:=ifF H
      obtain rfl:=o_I H
      go_wp2_with (first|(refine g_C 121 ?_;refine gL (some 5) Tryz.func121 #[.int .i64 a0_0] ?_;(with_reducible refine(impl_isGen.calls A2.out).mono ?_);rintro e w' ⟨rfl,⟨nd,rfl⟩⟩;refine⟨_,rfl,?_⟩;obtain⟨hcz11_0,hcz11_1,hcz11_2⟩:=cz3 BK709.out;obtain⟨hfz11_0,hfz11_1,hfz11_2⟩:=fz3 BK709.out)|(go_at_call 110;(with_reducible refine(impl_isSlot.calls A7.out).mono ?_);rintro e w' ⟨rfl,⟨nd,rfl⟩⟩))
      go_ret
      exact⟨TE,TB⟩
  · replace c6:=b_F c6
    subst c6
    replace H:=ifF H
    obtain rfl:=o_I H
    go_wp2_with (first|(refine g_C 121 ?_;refine gL (some 5) Tryz.func121 #[.int .i64 a0_0] ?_;(with_reducible refine(impl_isGen.calls A2.out).mono ?_);rintro e w' ⟨rfl,⟨nd,rfl⟩⟩;refine⟨_,rfl,?_⟩))
    go_ret
    exact⟨TE,TB⟩
def impl_isPut.f (a:Int)(b:Int)(c:List Int)(d:Int)(e:Int)(f:Int):Option (Bool):=if a=2 then (if b=0 then (if (c.length:Int)=0 then ((impl_isRecord.f d e f).bind fun g=>(some g)) else (some false)) else (some false)) else ((impl_isSlot.f a).bind fun h=>(if h=true then (if (d==0&&(e==0&&(f==0)))=true then ((impl_within.f b 0 (wrap64 (240 - (c.length:Int)))).bind fun i=>(some i)) else (some false)) else (some false)))
theorem impl_isPut.calls {a0_0:Int}{a0_1:Int}{A0_2:Option Addr}{c0_2:Nat}{l0_2:List Int}{a0_3:Int}{a0_4:Int}{a0_5:Int}{r:Bool}{w:World}(hr0_2:Kd.C (Kd.int .u8) w A0_2 l0_2.length l0_2)(hc0_2:l0_2.length≤c0_2)(h:impl_isPut.f a0_0 a0_1 l0_2 a0_3 a0_4 a0_5=some r):
    Calls Tryz.prog 105 #[.agg #[.int .i64 a0_0,.int .i64 a0_1,.slice A0_2 l0_2.length c0_2,.int .i64 a0_3,.int .i64 a0_4,.int .i64 a0_5]] w fun e w'=>e=.returned (.bool r)∧Below w.heap.size w w':=by
  have hu91:=Tryz.underlying91
  have hu36:=Tryz.underlying36
  have HR0_2:=aM hr0_2
  have HC0_2:=aM hc0_2
  clear hr0_2 hc0_2
  have HB:=aM (Below.refl w.heap.size w)
  have H:=h
  clear h
  unfold impl_isPut.f at H
  by_cases c2:a0_0=2
  · rw[if_pos c2] at H
    have c2b0:(a0_0==2)=true:=beq_iff_eq.mpr c2
    have c2b1:(a0_0 != 2)=false:=bne_eq_false_iff_eq.mpr c2
    clear c2
    by_cases c3:a0_1=0
    · rw[if_pos c3] at H
      have c3b0:(a0_1==0)=true:=beq_iff_eq.mpr c3
      have c3b1:(a0_1 != 0)=false:=bne_eq_false_iff_eq.mpr c3
      clear c3
      by_cases c4:(l0_2.length:Int)=0
      · rw[if_pos c4] at H
        have c4b0:((l0_2.length:Int)==0)=true:=beq_iff_eq.mpr c4
        have c4b1:((l0_2.length:Int) != 0)=false:=bne_eq_false_iff_eq.mpr c4
        clear c4
        replace H:=bE H
        obtain⟨t714,A5,H⟩:=H
        obtain rfl:=o_I H
        go_enter Tryz.func105,Tryz.ntmps105
        go_wp2_with (first|(refine g_D 1 ?_;(try (refine gate_guard (by rfl) ?_;dsimp only));refine gBx 1 #[.int .i64 a0_0,.int .i64 a0_1,.slice A0_2 l0_2.length c0_2,.int .i64 a0_3,.int .i64 a0_4,.int .i64 a0_5] 91 ?_;intro gb713 hg w6 hbox hb;have BK713:=aM (hbox);have GW713:=gW HB hg;have GE713:=gW HB hg;replace HB:=bS HB hb;clear hb hbox hg;obtain⟨hcz7_0,hcz7_1,hcz7_2,hcz7_3,hcz7_4,hcz7_5⟩:=cz6 BK713.out;obtain⟨hfz7_0,hfz7_1,hfz7_2,hfz7_3,hfz7_4,hfz7_5⟩:=fz6 BK713.out)|(go_at_call 101;(with_reducible refine(impl_isRecord.calls A5.out).mono ?_);rintro e w8 ⟨rfl,hb⟩;replace BK713:=mB BK713 hb;replace HB:=bS HB hb;clear hb))
        go_ret
        exact⟨TE,TB⟩
      · rw[if_neg c4] at H
        have c4b0:((l0_2.length:Int)==0)=false:=beq_eq_false_iff_ne.mpr c4
        have c4b1:((l0_2.length:Int) != 0)=true:=bne_iff_ne.mpr c4
        have c4b2:¬(l0_2=[]):=fun h_=>c4 (by rw[h_];rfl)
        obtain rfl:=o_I H
        go_enter Tryz.func105,Tryz.ntmps105
        go_wp2_with (first|(refine g_D 1 ?_;(try (refine gate_guard (by rfl) ?_;dsimp only));refine gBx 1 #[.int .i64 a0_0,.int .i64 a0_1,.slice A0_2 l0_2.length c0_2,.int .i64 a0_3,.int .i64 a0_4,.int .i64 a0_5] 91 ?_;intro gb713 hg w9 hbox hb;have BK713:=aM (hbox);have GW713:=gW HB hg;have GE713:=gW HB hg;replace HB:=bS HB hb;clear hb hbox hg;obtain⟨hcz10_0,hcz10_1,hcz10_2,hcz10_3,hcz10_4,hcz10_5⟩:=cz6 BK713.out;obtain⟨hfz10_0,hfz10_1,hfz10_2,hfz10_3,hfz10_4,hfz10_5⟩:=fz6 BK713.out))
        go_ret
        exact⟨TE,TB⟩
    · rw[if_neg c3] at H
      have c3b0:(a0_1==0)=false:=beq_eq_false_iff_ne.mpr c3
      have c3b1:(a0_1 != 0)=true:=bne_iff_ne.mpr c3
      obtain rfl:=o_I H
      go_enter Tryz.func105,Tryz.ntmps105
      go_wp2_with (first|(refine g_D 1 ?_;(try (refine gate_guard (by rfl) ?_;dsimp only));refine gBx 1 #[.int .i64 a0_0,.int .i64 a0_1,.slice A0_2 l0_2.length c0_2,.int .i64 a0_3,.int .i64 a0_4,.int .i64 a0_5] 91 ?_;intro gb713 hg w11 hbox hb;have BK713:=aM (hbox);have GW713:=gW HB hg;have GE713:=gW HB hg;replace HB:=bS HB hb;clear hb hbox hg;obtain⟨hcz12_0,hcz12_1,hcz12_2,hcz12_3,hcz12_4,hcz12_5⟩:=cz6 BK713.out;obtain⟨hfz12_0,hfz12_1,hfz12_2,hfz12_3,hfz12_4,hfz12_5⟩:=fz6 BK713.out))
      go_ret
      exact⟨TE,TB⟩
  · rw[if_neg c2] at H
    have c2b0:(a0_0==2)=false:=beq_eq_false_iff_ne.mpr c2
    have c2b1:(a0_0 != 2)=true:=bne_iff_ne.mpr c2
    replace H:=bE H
    obtain⟨t715,A13,H⟩:=H
    go_enter Tryz.func105,Tryz.ntmps105
    go_wp2_with (first|(refine g_D 1 ?_;(try (refine gate_guard (by rfl) ?_;dsimp only));refine gBx 1 #[.int .i64 a0_0,.int .i64 a0_1,.slice A0_2 l0_2.length c0_2,.int .i64 a0_3,.int .i64 a0_4,.int .i64 a0_5] 91 ?_;intro gb713 hg w15 hbox hb;have BK713:=aM (hbox);have GW713:=gW HB hg;have GE713:=gW HB hg;replace HB:=bS HB hb;clear hb hbox hg;obtain⟨hcz16_0,hcz16_1,hcz16_2,hcz16_3,hcz16_4,hcz16_5⟩:=cz6 BK713.out;obtain⟨hfz16_0,hfz16_1,hfz16_2,hfz16_3,hfz16_4,hfz16_5⟩:=fz6 BK713.out)|(refine g_C 110 ?_;refine g_D 22 ?_;generalize hG_:wpList _ _ _ _ _ _=G_))
    subst hG_
    by_cases c17:t715=true
    · subst c17
      replace H:=ifT H
      by_cases c18:(a0_3==0&&(a0_4==0&&(a0_5==0)))=true
      · rw[if_pos c18] at H
        have c18b0:(a0_3==0&&(a0_4==0&&(a0_5==0)))=true:=c18
        (try (have c18b1:decide (a0_3=0&&(a0_4==0&&(a0_5==0)))=true:=by simpa using c18))
        (try (have c18b2:(a0_3==0&&(a0_4==0&&(a0_5==0)))=true:=by simpa using c18))
        clear c18
        replace H:=bE H
        obtain⟨t716,A19,H⟩:=H
        obtain rfl:=o_I H
        go_wp2_with (first|(refine g_C 110 ?_;refine gL (some 22) Tryz.func110 #[.int .i64 a0_0] ?_;(with_reducible refine(impl_isSlot.calls A13.out).mono ?_);rintro e w' ⟨rfl,⟨nd,rfl⟩⟩;refine⟨_,rfl,?_⟩;obtain⟨hcz20_0,hcz20_1,hcz20_2,hcz20_3,hcz20_4,hcz20_5⟩:=cz6 BK713.out;obtain⟨hfz20_0,hfz20_1,hfz20_2,hfz20_3,hfz20_4,hfz20_5⟩:=fz6 BK713.out)|(go_at_call 106;(with_reducible refine(impl_within.calls A19.out).mono ?_);rintro e w' ⟨rfl,⟨nd,rfl⟩⟩))
        go_ret
        exact⟨TE,TB⟩
      · rw[if_neg c18] at H
        have c18b0:(a0_3==0&&(a0_4==0&&(a0_5==0)))=false:=by simpa using c18
        (try (have c18b1:decide (a0_3=0&&(a0_4==0&&(a0_5==0)))=false:=by simpa using c18))
        (try (have c18b2:(a0_3==0&&(a0_4==0&&(a0_5==0)))=false:=by simpa using c18))
        (try (have c18b3:¬(a0_3=0&&(a0_4==0&&(a0_5==0))):=by simpa using c18))
        clear c18
        obtain rfl:=o_I H
        go_wp2_with (first|(refine g_C 110 ?_;refine gL (some 22) Tryz.func110 #[.int .i64 a0_0] ?_;(with_reducible refine(impl_isSlot.calls A13.out).mono ?_);rintro e w' ⟨rfl,⟨nd,rfl⟩⟩;refine⟨_,rfl,?_⟩;obtain⟨hcz21_0,hcz21_1,hcz21_2,hcz21_3,hcz21_4,hcz21_5⟩:=cz6 BK713.out;obtain⟨hfz21_0,hfz21_1,hfz21_2,hfz21_3,hfz21_4,hfz21_5⟩:=fz6 BK713.out))
        go_ret
        exact⟨TE,TB⟩
    · replace c17:=b_F c17
      subst c17
      replace H:=ifF H
      obtain rfl:=o_I H
      go_wp2_with (first|(refine g_C 110 ?_;refine gL (some 22) Tryz.func110 #[.int .i64 a0_0] ?_;(with_reducible refine(impl_isSlot.calls A13.out).mono ?_);rintro e w' ⟨rfl,⟨nd,rfl⟩⟩;refine⟨_,rfl,?_⟩))
      go_ret
      exact⟨TE,TB⟩
def impl_DiskOk_1.f (a:Int)(b:Int)(c:List Int)(d:Int)(e:Int)(f:Int):Option (Bool):=(impl_isPut.f a b c d e f).bind fun g=>(some (!g))
theorem impl_DiskOk_1.calls {a0_0:Int}{a0_1:Int}{A0_2:Option Addr}{c0_2:Nat}{l0_2:List Int}{a0_3:Int}{a0_4:Int}{a0_5:Int}{r:Bool}{w:World}(hr0_2:Kd.C (Kd.int .u8) w A0_2 l0_2.length l0_2)(hc0_2:l0_2.length≤c0_2)(h:impl_DiskOk_1.f a0_0 a0_1 l0_2 a0_3 a0_4 a0_5=some r):
    Calls Tryz.prog 104 #[.agg #[.int .i64 a0_0,.int .i64 a0_1,.slice A0_2 l0_2.length c0_2,.int .i64 a0_3,.int .i64 a0_4,.int .i64 a0_5]] w fun e w'=>e=.returned (.bool r)∧Below w.heap.size w w':=by
  have hu91:=Tryz.underlying91
  have HR0_2:=aM hr0_2
  have HC0_2:=aM hc0_2
  clear hr0_2 hc0_2
  have HB:=aM (Below.refl w.heap.size w)
  have H:=h
  clear h
  unfold impl_DiskOk_1.f at H
  replace H:=bE H
  obtain⟨t718,A2,H⟩:=H
  obtain rfl:=o_I H
  go_enter Tryz.func104,Tryz.ntmps104
  go_wp2_with (first|(refine g_D 1 ?_;refine gBx 1 #[.int .i64 a0_0,.int .i64 a0_1,.slice A0_2 l0_2.length c0_2,.int .i64 a0_3,.int .i64 a0_4,.int .i64 a0_5] 91 ?_;intro gb717 hg w3 hbox hb;have BK717:=aM (hbox);have GW717:=gW HB hg;have GE717:=gW HB hg;replace HB:=bS HB hb;clear hb hbox hg;obtain⟨hcz4_0,hcz4_1,hcz4_2,hcz4_3,hcz4_4,hcz4_5⟩:=cz6 BK717.out;obtain⟨hfz4_0,hfz4_1,hfz4_2,hfz4_3,hfz4_4,hfz4_5⟩:=fz6 BK717.out)|(refine g_C 105 ?_;refine gL (some 4) Tryz.func105 #[.agg #[.int .i64 a0_0,.int .i64 a0_1,.slice A0_2 l0_2.length c0_2,.int .i64 a0_3,.int .i64 a0_4,.int .i64 a0_5]] ?_;(with_reducible refine(impl_isPut.calls ?side1 ?side2 A2.out).mono ?_);(case side1=>have X_:=(Kd.C_below HR0_2.out HB.out);exact TC);(case side2=>exact HC0_2.out);rintro e w5 ⟨rfl,hb⟩;refine⟨_,rfl,?_⟩;replace BK717:=mB BK717 hb;replace HB:=bS HB hb;clear hb))
  go_ret
  exact⟨TE,TB⟩
def impl_Put_122.l0 :Nat→List (S91)→Int→Int→Option (Int)
  |0,_,_,_=>none
  |k+1,b,d,a=>if a<d then (if 0≤a then (if a<(b.length:Int) then ((impl_DiskOk_1.f ((rd_T91 b a).f0) ((rd_T91 b a).f1) ((rd_T91 b a).f2) ((rd_T91 b a).f3.f0) ((rd_T91 b a).f3.f1) ((rd_T91 b a).f3.f2)).bind fun c=>(if c=true then (some a) else (impl_Put_122.l0 k b d (wrap64 (a+1))))) else (none)) else (none)) else (some (-1))
def impl_Put_122.f (k:Nat)(a:List (S91)):Option (Int):=impl_Put_122.l0 k a (a.length:Int) 0
theorem impl_Put_122.mono_l :∀k,(∀a b c,LeO (impl_Put_122.l0 k a b c) (impl_Put_122.l0 (k+1) a b c))
  |0=>fun _ _ _ r h=>by simp [impl_Put_122.l0] at h
  | k+1=>by
    have ih0:=impl_Put_122.mono_l k
    · intro y0 y1 y2
      unfold impl_Put_122.l0
      exact LM
theorem impl_Put_122.mono :∀a k,LeO (impl_Put_122.f k a) (impl_Put_122.f (k+1) a):=by
  intro a0 k;have ih0:=impl_Put_122.mono_l k;unfold impl_Put_122.f;exact LM
theorem impl_Put_122.calls {k:Nat}{A0:Option Addr}{c0:Nat}{l0:List (S91)}{r:Int}{w:World}(hr0:Kd.C k91 w A0 l0.length l0)(hc0:l0.length≤c0)(h:impl_Put_122.f k l0=some r):
    Calls Tryz.prog 122 #[.slice A0 l0.length c0,.func (.func 104) #[] #[]] w fun e w'=>e=.returned (.int .i64 r)∧Below w.heap.size w w':=by
  have hu91:=Tryz.underlying91
  have HR0:=aM hr0
  have HC0:=aM hc0
  clear hr0 hc0
  have HB:=aM (Below.refl w.heap.size w)
  have H:=h
  clear h
  unfold impl_Put_122.f at H
  have H':=aM H
  clear H
  go_enter Tryz.func122,Tryz.ntmps122
  go_wp2
  go_loopg [8] k (fun kq v8 w'=>∃(x8_1:Int),v8=.int .i64 x8_1∧Aside0 (impl_Put_122.l0 kq l0 (l0.length:Int) x8_1=some r)∧Aside0 (kq≤k)∧Aside0 (Below w.heap.size w w'))
  case atStart=>exact⟨(0),TF,H',⟨Nat.le_refl _⟩,⟨TB⟩⟩
  case round=>
    clear H'
    try clear c1
    try clear p2
    obtain⟨x8_1,rfl,HA,HK1,HB⟩:=hrel
    cases gk with
    |zero=>exact absurd HA.out (by simp [impl_Put_122.l0])
    | succ k1=>
      have H:=HA.out
      clear HA
      simp only[impl_Put_122.l0] at H
      by_cases c3:x8_1<(l0.length:Int)
      · rw[if_pos c3] at H
        have c3b0:decide (x8_1<(l0.length:Int))=true:=decide_eq_true c3
        clear c3
        replace H:=ifN H
        obtain⟨c4,H⟩:=H
        have c4b0:decide (0≤x8_1)=true:=decide_eq_true c4
        clear c4
        replace H:=ifN H
        obtain⟨c5,H⟩:=H
        have c5b0:decide (x8_1<(l0.length:Int))=true:=decide_eq_true c5
        clear c5
        replace H:=bE H
        obtain⟨t720,A6,H⟩:=H
        have p719:0≤(x8_1:Int):=DT
        have q719:x8_1<(l0.length:Int):=DT
        obtain⟨ad719,A719_2,c719_2,e719,hx719_0,hx719_1,hx719_2,hx719_3,hx719_4,hx719_5,hl719_2,hi719_2⟩:=at_T91 HR0.out x8_1 p719 q719
        cases e719
        replace hx719_0:=(HB.out.cell (World.block_lt_of_cell? w _ hx719_0)).trans hx719_0
        replace hx719_1:=(HB.out.cell (World.block_lt_of_cell? w _ hx719_1)).trans hx719_1
        replace hx719_2:=(HB.out.cell (World.block_lt_of_cell? w _ hx719_2)).trans hx719_2
        replace hx719_3:=(HB.out.cell (World.block_lt_of_cell? w _ hx719_3)).trans hx719_3
        replace hx719_4:=(HB.out.cell (World.block_lt_of_cell? w _ hx719_4)).trans hx719_4
        replace hx719_5:=(HB.out.cell (World.block_lt_of_cell? w _ hx719_5)).trans hx719_5
        have HR719_2:=aM hi719_2
        have HC719_2:=aM hl719_2
        clear hi719_2 hl719_2
        replace p719:=eq_true p719
        replace q719:=eq_true q719
        go_wp2_with (first|fail)
        (with_reducible refine(impl_DiskOk_1.calls ?side1 ?side2 A6.out).mono ?_)
        (case side1=>have X_:=(Kd.C_below HR719_2.out HB.out);exact TC)
        (case side2=>exact HC719_2.out)
        rintro e w8 ⟨rfl,hb⟩
        (try dsimp only)
        replace HB:=bS HB hb
        clear hb
        by_cases c7:t720=true
        · subst c7
          replace H:=ifT H
          obtain rfl:=o_I H
          go_wp2_with (first|fail)
          go_ret
          exact⟨TE,TB⟩
        · replace c7:=b_F c7
          subst c7
          replace H:=ifF H
          have H':=aM H
          clear H
          go_wp2_with (first|fail)
          go_roundg k1
          case measure=>have:=HK1.out;omega
          case rel=>exact⟨(wrap64 (x8_1+1)),TF,H',⟨by have:=HK1.out;omega⟩,⟨TB⟩⟩
      · rw[if_neg c3] at H
        have c3b0:decide (x8_1<(l0.length:Int))=false:=decide_eq_false c3
        clear c3
        obtain rfl:=o_I H
        go_wp2
        go_ret
        exact⟨TE,TB⟩
def impl_Put_103.f (k:Nat)(b:List (S91)):Option (Bool):=(impl_Put_122.f k b).bind fun a=>(some (decide (a≥0)))
theorem impl_Put_103.mono :∀a k,LeO (impl_Put_103.f k a) (impl_Put_103.f (k+1) a):=by
  intro a0 k;have m0_:=@impl_Put_122.mono;unfold impl_Put_103.f;exact LM
theorem impl_Put_103.calls {k:Nat}{A0:Option Addr}{c0:Nat}{l0:List (S91)}{r:Bool}{w:World}(hr0:Kd.C k91 w A0 l0.length l0)(hc0:l0.length≤c0)(h:impl_Put_103.f k l0=some r):
  Calls Tryz.prog 103 #[.slice A0 l0.length c0,.func (.func 104) #[] #[]] w fun e w'=>e=.returned (.bool r)∧Below w.heap.size w w':=by
 have HR0:=aM hr0;have HC0:=aM hc0;clear hr0 hc0;have HB:=aM (Below.refl w.heap.size w);have H:=h;clear h;unfold impl_Put_103.f at H;replace H:=bE H;obtain⟨t721,Aq1,H⟩:=H;obtain rfl:=o_I H;go_enter Tryz.func103,Tryz.ntmps103;go_wp2_with (first|(refine g_C 122 ?_;refine gL (some 7) Tryz.func122 #[.slice A0 l0.length c0,.func (.func 104) #[] #[]] ?_;(with_reducible refine(impl_Put_122.calls ?side1 ?side2 Aq1.out).mono ?_);(case side1=>have X_:=HR0.out;exact TC);(case side2=>exact HC0.out);rintro e w4 ⟨rfl,hb⟩;refine⟨_,rfl,?_⟩;replace HB:=bS HB hb;clear hb))
 go_ret
 exact⟨TE,TB⟩
attribute [local go_sem] min2_int min_two
theorem Zq31_0 {p:Prop}(h:p:=by repeat (first|exact(Kd.C_below HRq3.out TB)|(with_reducible refine Kd.C_alloc ?_ _)|(with_reducible refine Kd.C_drewN ?_ _)|(with_reducible refine Kd.C_drew ?_))):p:=h
def impl_DiskOk.f (k:Nat)(d:List Int)(e:List Int)(f:Int)(a:Int)(c:Int)(b:List (S91)):Option (Bool):=if (d.length:Int)>240 then (some false) else (if (e.length:Int)>240 then (some false) else ((impl_isRecord.f f a c).bind fun g=>(if g=true then (if a=0 then ((impl_Disk_slot.f a 0).bind fun _=>(if c>(d.length:Int) then (some false) else (if (b.length:Int)≤200 then ((impl_Put_103.f k b).bind fun h=>(some (!h))) else (some false)))) else ((impl_Disk_slot.f a 1).bind fun _=>(if c>(e.length:Int) then (some false) else (if (b.length:Int)≤200 then ((impl_Put_103.f k b).bind fun i=>(some (!i))) else (some false))))) else (some false))))
theorem impl_DiskOk.mono :∀a b c d e f k,LeO (impl_DiskOk.f k a b c d e f) (impl_DiskOk.f (k+1) a b c d e f):=by
  intro a0 a1 a2 a3 a4 a5 k;have m0_:=@impl_Put_103.mono;unfold impl_DiskOk.f;exact LM
def impl_DiskOk.T1 :Bool×List (List Nat×List Nat):=(true,[([],[]),([0],[0]),([1],[1]),([2],[2]),([3],[3]),([4],[4]),([5,4],[4,5]),([6,4],[4,6]),([7,4],[4,7]),([4,8],[4,8]),([9,4],[9]),([10],[10]),([11,10],[10,11]),([12,10,10],[10,12]),([13,10],[10,13]),([10,14],[10,14]),([15,13],[15]),([16],[16]),([17,16],[16,17]),([18,16],[16,18]),([16],[16]),([20,16],[16,20]),([21,16],[16,21]),([22,16,16],[16,22]),([23,16],[16,23]),([24,16],[16,24]),([25,16],[16,25]),([19,26,16],[16,19,26]),([16,27],[16,27])])
def impl_DiskOk.B1 :List Nat:=[0,1,3,7,15,31,63,127,255,511,1023,2047,4095,8191,16383,32767,65535,131071,262143,524287,131071,1179647,3276799,7471103,15859711,32636927,66191359,134217727,268435455]
theorem impl_DiskOk.tab1 :rtab .any (opsOf Tryz.f66 1)=impl_DiskOk.T1:=by kernel_rfl
theorem impl_DiskOk.bits1 :waitsOk impl_DiskOk.T1.2 impl_DiskOk.B1=true:=by kernel_rfl
theorem Yq31_2 {p:Prop}(h:p:=by
 refine ppq 15 18 ?_;refine ppq 16 19 ?_;refine pxq 17 20 ?_;refine pxq 18 21 ?_;refine pxq 19 22 ?_;refine pxq 20 23 ?_;refine pxq 21 24 ?_;refine pxq 22 25 ?_;refine pxq 23 26 ?_;refine pxq 24 27 ?_;refine pxq 25 28 ?_;refine pxq 26 29 ?_;refine pxq 27 30 ?_;refine ppq 28 31 ?_;refine done_ (done_of HT_.out (by kernel_rfl)) ?_;try go_wp2
 go_ret
 exact⟨TE,TB⟩):p:=h
theorem Yq31_1 {p:Prop}(h:p:=by
 clear ai;obtain rfl:=o_I H;go_enter Tryz.func66,Tryz.ntmps66;try go_wp2_with (first|(refine g_D 1 ?_;(try (refine gate_guard (by rfl) ?_;dsimp only));refine gBx 1 #[.slice ap af.length ao,.slice an ae.length am,.int .i64 ag,.int .i64 ab,.int .i64 ac,.slice ak ad.length al] 39 ?_;intro ah hg wq1 hbox hb;have aa:=aM (hbox);have GWq1:=gW HB hg;have GEq1:=gW HB hg;replace HB:=bS HB hb;clear hb hbox hg))
 replace aa:=bD aa;replace HB:=aM (below_drew1 HB.out);refine st_ (n:=29) (ds:=[]) (Array.replicate 29 false) (hK6 aa.out) (by kernel_rfl) rfl rfl (fun hHeld=>?_);refine with_tabW impl_DiskOk.tab1 impl_DiskOk.bits1 (fun HT_ HW_=>?_);generalize wq1.drew=wq2 at aa HB hHeld ⊢;refine ppq 0 3 ?_;refine ptq 1 4 ?_;refine ppq 2 5 ?_;refine ppq 3 6 ?_;refine ppq 4 7 ?_;refine ppq 5 8 ?_;refine ptq 6 9 ?_;refine ppq 7 10 ?_;refine ppq 8 11 ?_;refine ppq 9 12 ?_;refine ppq 10 13 ?_;refine ppq 11 14 ?_;refine ptq 12 15 ?_;refine poq 13 16 (fun K hK=>?_);refine gG Tryz.func101 #[.agg #[.int .i64 ag,.int .i64 ab,.int .i64 ac]] ?_;with_reducible refine(impl_isRecord.calls Aq1.out).mono ?_
 rintro e wq3 ⟨rfl,hb⟩;refine⟨_,rfl,?_⟩;replace aa:=mB aa hb;replace HB:=bS HB hb;(try clear hb);refine hK.out _ _ (cz6 aa.out) (fun hHeld=>?_);clear hK K;refine nR ?_;refine ppq 14 17 ?_;refine ppq 15 18 ?_;refine ppq 16 19 ?_;refine ppq 17 20 ?_;refine ppq 18 21 ?_;refine ppq 20 23 ?_;refine ppq 21 24 ?_;refine ptq 19 22 ?_;refine ptq 22 25 ?_;refine poq 23 26 (fun K hK=>?_);refine gG Tryz.func102 #[.pointer (some ⟨ah,0,none⟩),.int .i64 ab] ?_;with_reducible refine(impl_Disk_slot.calls _ Aq2.out).mono ?_
 rintro e w' ⟨rfl,⟨nd,rfl⟩⟩;refine⟨_,rfl,?_⟩;refine hK.out _ _ (cz6 aa.out) (fun hHeld=>?_);clear hK K;refine nR ?_;refine ppq 24 27 ?_;refine ptq 25 28 ?_;refine ppq 26 29 ?_;refine ppq 27 30 ?_;refine ppq 28 31 ?_;refine done_ (done_of HT_.out (by kernel_rfl)) ?_;try go_wp2
 go_ret
 exact⟨TE,TB⟩):p:=h
theorem Yq31_0 {p:Prop}(h:p:=by
 clear ai;go_enter Tryz.func66,Tryz.ntmps66;try go_wp2_with (first|(refine g_D 1 ?_;(try (refine gate_guard (by rfl) ?_;dsimp only));refine gBx 1 #[.slice ap af.length ao,.slice an ae.length am,.int .i64 ag,.int .i64 ab,.int .i64 ac,.slice ak ad.length al] 39 ?_;intro ah hg wq1 hbox hb;have aa:=aM (hbox);have GWq1:=gW HB hg;have GEq1:=gW HB hg;replace HB:=bS HB hb;clear hb hbox hg))
 replace aa:=bD aa;replace HB:=aM (below_drew1 HB.out);refine st_ (n:=29) (ds:=[]) (Array.replicate 29 false) (hK6 aa.out) (by kernel_rfl) rfl rfl (fun hHeld=>?_);refine with_tabW impl_DiskOk.tab1 impl_DiskOk.bits1 (fun HT_ HW_=>?_);generalize wq1.drew=wq2 at aa HB hHeld ⊢;refine ppq 0 3 ?_;refine ptq 1 4 ?_;refine ppq 2 5 ?_;refine ppq 3 6 ?_;refine ppq 4 7 ?_;refine ppq 5 8 ?_;refine ptq 6 9 ?_;refine ppq 7 10 ?_;refine ppq 8 11 ?_;refine ppq 9 12 ?_;refine ppq 10 13 ?_;refine ppq 11 14 ?_;refine ptq 12 15 ?_;refine poq 13 16 (fun K hK=>?_);refine gG Tryz.func101 #[.agg #[.int .i64 ag,.int .i64 ab,.int .i64 ac]] ?_;with_reducible refine(impl_isRecord.calls Aq1.out).mono ?_
 rintro e wq3 ⟨rfl,hb⟩;refine⟨_,rfl,?_⟩;replace aa:=mB aa hb;replace HB:=bS HB hb;(try clear hb);refine hK.out _ _ (cz6 aa.out) (fun hHeld=>?_);clear hK K;refine nR ?_;refine ppq 14 17 ?_;refine ppq 15 18 ?_;refine ppq 16 19 ?_;refine ppq 17 20 ?_;refine ppq 18 21 ?_;refine ppq 20 23 ?_;refine ppq 21 24 ?_;refine ptq 19 22 ?_;refine ptq 22 25 ?_;refine poq 23 26 (fun K hK=>?_);refine gG Tryz.func102 #[.pointer (some ⟨ah,0,none⟩),.int .i64 ab] ?_;with_reducible refine(impl_Disk_slot.calls _ Aq2.out).mono ?_
 rintro e w' ⟨rfl,⟨nd,rfl⟩⟩;refine⟨_,rfl,?_⟩;refine hK.out _ _ (cz6 aa.out) (fun hHeld=>?_);clear hK K;refine nR ?_;refine ppq 24 27 ?_;refine ptq 25 28 ?_;refine ppq 26 29 ?_;refine ppq 27 30 ?_;refine ppq 28 31 ?_;refine done_ (done_of HT_.out (by kernel_rfl)) ?_;obtain⟨hczq1,hczq2,hczq3,hczq4,hczq5,hczq6⟩:=cz6 aa.out;obtain⟨hfzq1,hfzq2,hfzq3,hfzq4,hfzq5,hfzq6⟩:=fz6 aa.out
 by_cases aj:(ad.length:Int)≤200
 ·rw[if_pos aj] at H;have av:decide ((ad.length:Int)≤200)=true:=decide_eq_true aj;have ar:decide (ad.length≤200)=true:=decide_eq_true (by omega);clear aj;replace H:=bE H;obtain⟨t724,Aq3,H⟩:=H;obtain rfl:=o_I H;try go_wp2_with (first|(go_at_call 103;(with_reducible refine(impl_Put_103.calls ?side1 ?side2 Aq3.out).mono ?_);(case side1=>exact Zq31_0);(case side2=>exact HCq3.out);rintro e wq4 ⟨rfl,hb⟩;replace aa:=mB aa hb;replace HB:=bS HB hb;clear hb))
  go_ret
  exact⟨TE,TB⟩
 ·rw[if_neg aj] at H;have av:decide ((ad.length:Int)≤200)=false:=decide_eq_false aj;have ar:decide (ad.length≤200)=false:=decide_eq_false (by omega);clear aj;obtain rfl:=o_I H;try go_wp2
  go_ret
  exact⟨TE,TB⟩):p:=h
theorem impl_DiskOk.calls {k:Nat}{ap:Option Addr}{ao:Nat}{af:List Int}{an:Option Addr}{am:Nat}{ae:List Int}{ag:Int}{ab:Int}{ac:Int}{ak:Option Addr}{al:Nat}{ad:List (S91)}{r:Bool}{w:World}(aw:Kd.C (Kd.int .u8) w ap af.length af)(aA:af.length≤ao)(az:Kd.C (Kd.int .u8) w an ae.length ae)(ay:ae.length≤am)(ax:Kd.C k91 w ak ad.length ad)(aB:ad.length≤al)(h:impl_DiskOk.f k af ae ag ab ac ad=some r):
  Calls Tryz.prog 66 #[.agg #[.slice ap af.length ao,.slice an ae.length am,.int .i64 ag,.int .i64 ab,.int .i64 ac,.slice ak ad.length al]] w fun e w'=>e=.returned (.bool r)∧Below w.heap.size w w':=by
 have huq1:=Tryz.underlying39;have huq2:=Tryz.underlying36;have HRq1:=aM aw;have HCq1:=aM aA;clear aw aA;have HRq2:=aM az;have HCq2:=aM ay;clear az ay;have HRq3:=aM ax;have HCq3:=aM aB;clear ax aB;have HB:=aM (Below.refl w.heap.size w);have H:=h;clear h;unfold impl_DiskOk.f at H
 by_cases cq1:(af.length:Int)>240
 ·rw[if_pos cq1] at H;have cq2:decide (240<(af.length:Int))=true:=decide_eq_true cq1;have cq3:decide (240<af.length)=true:=decide_eq_true (by omega);clear cq1;obtain rfl:=o_I H;go_enter Tryz.func66,Tryz.ntmps66;try go_wp2_with (first|(refine g_D 1 ?_;(try (refine gate_guard (by rfl) ?_;dsimp only));refine gBx 1 #[.slice ap af.length ao,.slice an ae.length am,.int .i64 ag,.int .i64 ab,.int .i64 ac,.slice ak ad.length al] 39 ?_;intro ah hg wq1 hbox hb;have aa:=aM (hbox);have GWq1:=gW HB hg;have GEq1:=gW HB hg;replace HB:=bS HB hb;clear hb hbox hg))
  replace aa:=bD aa;replace HB:=aM (below_drew1 HB.out);refine st_ (n:=29) (ds:=[]) (Array.replicate 29 false) (hK6 aa.out) (by kernel_rfl) rfl rfl (fun hHeld=>?_);refine with_tabW impl_DiskOk.tab1 impl_DiskOk.bits1 (fun HT_ HW_=>?_);generalize wq1.drew=wq2 at aa HB hHeld ⊢;refine ppq 0 3 ?_;refine ptq 1 4 ?_;refine ppq 2 5 ?_;refine ppq 3 6 ?_;refine ppq 4 7 ?_;refine pxq 5 8 ?_;refine pxq 6 9 ?_;refine pxq 7 10 ?_;refine pxq 8 11 ?_;refine ppq 9 12 ?_;refine ppq 10 13 ?_;refine pxq 11 14 ?_;refine pxq 12 15 ?_;refine pxq 13 16 ?_;refine pxq 14 17 ?_;exact Yq31_2
 ·rw[if_neg cq1] at H;have cq2:decide (240<(af.length:Int))=false:=decide_eq_false cq1;have cq3:decide (240<af.length)=false:=decide_eq_false (by omega);clear cq1
  by_cases cq4:(ae.length:Int)>240
  ·rw[if_pos cq4] at H;have cq5:decide (240<(ae.length:Int))=true:=decide_eq_true cq4;have cq6:decide (240<ae.length)=true:=decide_eq_true (by omega);clear cq4;obtain rfl:=o_I H;go_enter Tryz.func66,Tryz.ntmps66;try go_wp2_with (first|(refine g_D 1 ?_;(try (refine gate_guard (by rfl) ?_;dsimp only));refine gBx 1 #[.slice ap af.length ao,.slice an ae.length am,.int .i64 ag,.int .i64 ab,.int .i64 ac,.slice ak ad.length al] 39 ?_;intro ah hg wq1 hbox hb;have aa:=aM (hbox);have GWq1:=gW HB hg;have GEq1:=gW HB hg;replace HB:=bS HB hb;clear hb hbox hg))
   replace aa:=bD aa;replace HB:=aM (below_drew1 HB.out);refine st_ (n:=29) (ds:=[]) (Array.replicate 29 false) (hK6 aa.out) (by kernel_rfl) rfl rfl (fun hHeld=>?_);refine with_tabW impl_DiskOk.tab1 impl_DiskOk.bits1 (fun HT_ HW_=>?_);generalize wq1.drew=wq2 at aa HB hHeld ⊢;refine ppq 0 3 ?_;refine ptq 1 4 ?_;refine ppq 2 5 ?_;refine ppq 3 6 ?_;refine ppq 4 7 ?_;refine ppq 5 8 ?_;refine ptq 6 9 ?_;refine ppq 7 10 ?_;refine ppq 8 11 ?_;refine ppq 9 12 ?_;refine ppq 10 13 ?_;refine pxq 11 14 ?_;refine pxq 12 15 ?_;refine pxq 13 16 ?_;refine pxq 14 17 ?_;exact Yq31_2
  ·rw[if_neg cq4] at H;have cq5:decide (240<(ae.length:Int))=false:=decide_eq_false cq4;have cq6:decide (240<ae.length)=false:=decide_eq_false (by omega);clear cq4;replace H:=bE H;obtain⟨t723,Aq1,H⟩:=H
   by_cases cq7:t723=true
   ·subst cq7;replace H:=ifT H
    by_cases cq8:ab=0
    ·rw[if_pos cq8] at H;have cq9:(ab==0)=true:=beq_iff_eq.mpr cq8;have cq10:(ab != 0)=false:=bne_eq_false_iff_eq.mpr cq8;clear cq8;replace H:=bE H;obtain⟨_,Aq2,H⟩:=H
     by_cases ai:ac>(af.length:Int)
     ·rw[if_pos ai] at H;have au:decide ((af.length:Int)<ac)=true:=decide_eq_true ai;exact Yq31_1
     ·rw[if_neg ai] at H;have au:decide ((af.length:Int)<ac)=false:=decide_eq_false ai;exact Yq31_0
    ·rw[if_neg cq8] at H;have cq9:(ab==0)=false:=beq_eq_false_iff_ne.mpr cq8;have cq10:(ab != 0)=true:=bne_iff_ne.mpr cq8;replace H:=bE H;obtain⟨_,Aq2,H⟩:=H
     by_cases ai:ac>(ae.length:Int)
     ·rw[if_pos ai] at H;have au:decide ((ae.length:Int)<ac)=true:=decide_eq_true ai;exact Yq31_1
     ·rw[if_neg ai] at H;have au:decide ((ae.length:Int)<ac)=false:=decide_eq_false ai;exact Yq31_0
   ·replace cq7:=b_F cq7;subst cq7;replace H:=ifF H;obtain rfl:=o_I H;go_enter Tryz.func66,Tryz.ntmps66;try go_wp2_with (first|(refine g_D 1 ?_;(try (refine gate_guard (by rfl) ?_;dsimp only));refine gBx 1 #[.slice ap af.length ao,.slice an ae.length am,.int .i64 ag,.int .i64 ab,.int .i64 ac,.slice ak ad.length al] 39 ?_;intro ah hg wq1 hbox hb;have aa:=aM (hbox);have GWq1:=gW HB hg;have GEq1:=gW HB hg;replace HB:=bS HB hb;clear hb hbox hg))
    replace aa:=bD aa;replace HB:=aM (below_drew1 HB.out);refine st_ (n:=29) (ds:=[]) (Array.replicate 29 false) (hK6 aa.out) (by kernel_rfl) rfl rfl (fun hHeld=>?_);refine with_tabW impl_DiskOk.tab1 impl_DiskOk.bits1 (fun HT_ HW_=>?_);generalize wq1.drew=wq2 at aa HB hHeld ⊢;refine ppq 0 3 ?_;refine ptq 1 4 ?_;refine ppq 2 5 ?_;refine ppq 3 6 ?_;refine ppq 4 7 ?_;refine ppq 5 8 ?_;refine ptq 6 9 ?_;refine ppq 7 10 ?_;refine ppq 8 11 ?_;refine ppq 9 12 ?_;refine ppq 10 13 ?_;refine ppq 11 14 ?_;refine ptq 12 15 ?_;refine poq 13 16 (fun K hK=>?_);refine gG Tryz.func101 #[.agg #[.int .i64 ag,.int .i64 ab,.int .i64 ac]] ?_;with_reducible refine(impl_isRecord.calls Aq1.out).mono ?_
    rintro e wq3 ⟨rfl,hb⟩;refine⟨_,rfl,?_⟩;replace aa:=mB aa hb;replace HB:=bS HB hb;(try clear hb);refine hK.out _ _ (cz6 aa.out) (fun hHeld=>?_);clear hK K;refine nR ?_;refine ppq 14 17 ?_;exact Yq31_2
def impl_Slice.f (b:List Int)(a:Int)(c:Int):Option (List Int×Bool):=(impl_within.f a 0 (b.length:Int)).bind fun d=>(if d=true then ((impl_within.f c 0 (wrap64 ((b.length:Int) - a))).bind fun e=>(if e=true then (if 0≤a then (if a≤(wrap64 (a+c)) then (if (wrap64 (a+c))≤(b.length:Int) then ((impl_cloned.f ((b.take ((wrap64 (a+c)):Int).toNat).drop (a:Int).toNat)).bind fun f=>(some (f,true))) else (none)) else (none)) else (none)) else (some (([]:List Int),false)))) else (some (([]:List Int),false)))
theorem impl_Slice.calls {A0:Option Addr}{c0:Nat}{l0:List Int}{a1:Int}{a2:Int}{r1:List Int}{r2:Bool}{w:World}(hr0:Kd.C (Kd.int .u8) w A0 l0.length l0)(hc0:l0.length≤c0)(h:impl_Slice.f l0 a1 a2=some (r1,r2)):
    Calls Tryz.prog 109 #[.slice A0 l0.length c0,.int .i64 a1,.int .i64 a2] w fun e w'=>∃v0_:Value,e=.returned (.tuple #[v0_,.bool r2])∧Kd.R (Kd.int .u8) 5 w' w.heap.size (fun _=>True) v0_ r1∧Below w.heap.size w w':=by
  have HR0:=aM hr0
  have HC0:=aM hc0
  clear hr0 hc0
  have HB:=aM (Below.refl w.heap.size w)
  have H:=h
  clear h
  unfold impl_Slice.f at H
  replace H:=bE H
  obtain⟨t726,A4,H⟩:=H
  by_cases c5:t726=true
  · subst c5
    replace H:=ifT H
    replace H:=bE H
    obtain⟨t727,A6,H⟩:=H
    by_cases c7:t727=true
    · subst c7
      replace H:=ifT H
      replace H:=ifN H
      obtain⟨c8,H⟩:=H
      have c8b0:=eq_true c8
      have c8b1:decide (0≤a1)=true:=decide_eq_true c8
      clear c8
      replace H:=ifN H
      obtain⟨c9,H⟩:=H
      have c9b0:=eq_true c9
      have c9b1:decide (a1≤(wrap64 (a1+a2)))=true:=decide_eq_true c9
      replace H:=ifN H
      obtain⟨c10,H⟩:=H
      have c10b0:=eq_true c10
      have c10b1:decide ((wrap64 (a1+a2))≤(l0.length:Int))=true:=decide_eq_true c10
      replace H:=bE H
      obtain⟨t729,A11,H⟩:=H
      simp only[Option.some.injEq,Prod.mk.injEq] at H
      obtain⟨rfl,rfl⟩:=H
      go_enter Tryz.func109,Tryz.ntmps109
      go_wp2_with (first|(refine g_C 106 ?_;refine gL (some 11) Tryz.func106 #[.int .i64 a1,.int .i64 0,.int .i64 (l0.length:Int)] ?_;(with_reducible refine(impl_within.calls A4.out).mono ?_);rintro e w' ⟨rfl,⟨nd,rfl⟩⟩;refine⟨_,rfl,?_⟩)|(go_at_call 106;(with_reducible refine(impl_within.calls A6.out).mono ?_);rintro e w' ⟨rfl,⟨nd,rfl⟩⟩;obtain⟨i012,hi012,_,hsz12,_⟩:=info_parts info5;obtain⟨A12,hcut12,hA12,hC12⟩:=print_mid_of (P:=Tryz.prog) (Value.int .u8) 0 22 5 .i64 .i64 Tryz.underlying22 hi012 hsz12 A0 c0 l0 a1 (wrap64 (a1+a2)) DT (by first|omega|exact DT) DT HC0.out;have HR728:=aM (Kd.C_of_reads (h1:=fun _=>rfl) (hA12 _ (Kd.reads_of_C HR0.out)));have HC728:=aM hC12;clear hA12 hC12 hi012 hsz12)|(refine g_C 74 ?_;refine goesL_ (some 28) rfl rfl Tryz.func74 (by kernel_rfl) rfl #[.slice A12 ((l0.take ((wrap64 (a1+a2)):Int).toNat).drop (a1:Int).toNat).length (c0 - a1.toNat)] rfl (by (try simp only[List.map_toArray,List.map_cons,List.map_nil]);first|done|(rw[show((l0.take ((wrap64 (a1+a2)):Int).toNat).drop (a1:Int).toNat).length=((wrap64 (a1+a2)).toNat - a1.toNat) from(by rw[List.length_drop,List.length_take];have h_:((wrap64 (a1+a2)):Int)≤(l0.length:Int):=DT;omega)]<;>rfl)|rfl|(simp only[List.length_drop,List.length_take];rfl)) ?_;(with_reducible refine(impl_cloned.calls ?side1 ?side2 A11.out).mono ?_);(case side1=>have X_:=HR728.out;exact TC);(case side2=>exact HC728.out);rintro e w13 ⟨v730,rfl,ho0,hb⟩;refine⟨_,rfl,?_⟩;have HO731:=aM (Kd.R_lower ho0 (below_size TB));replace HB:=bS HB hb;clear ho0 hb))
      go_ret2
      exact⟨_,TE,by have X_:=HO731.out;exact TR,TB⟩
    · replace c7:=b_F c7
      subst c7
      replace H:=ifF H
      simp only[Option.some.injEq,Prod.mk.injEq] at H
      obtain⟨rfl,rfl⟩:=H
      go_enter Tryz.func109,Tryz.ntmps109
      go_wp2_with (first|(refine g_C 106 ?_;refine gL (some 11) Tryz.func106 #[.int .i64 a1,.int .i64 0,.int .i64 (l0.length:Int)] ?_;(with_reducible refine(impl_within.calls A4.out).mono ?_);rintro e w' ⟨rfl,⟨nd,rfl⟩⟩;refine⟨_,rfl,?_⟩)|(go_at_call 106;(with_reducible refine(impl_within.calls A6.out).mono ?_);rintro e w' ⟨rfl,⟨nd,rfl⟩⟩))
      go_ret2
      exact⟨_,TE,by first|exact Kd.R_nil _ _ _ _ _|exact Kd.N_nil _ _ _ _ _|exact Kd.V_nil _ _ _ _ _|exact Kd.Q_nil _ _ _ _ _|exact Kd.S_nil _ _ _ _ _,TB⟩
  · replace c5:=b_F c5
    subst c5
    replace H:=ifF H
    simp only[Option.some.injEq,Prod.mk.injEq] at H
    obtain⟨rfl,rfl⟩:=H
    go_enter Tryz.func109,Tryz.ntmps109
    go_wp2_with (first|(refine g_C 106 ?_;refine gL (some 11) Tryz.func106 #[.int .i64 a1,.int .i64 0,.int .i64 (l0.length:Int)] ?_;(with_reducible refine(impl_within.calls A4.out).mono ?_);rintro e w' ⟨rfl,⟨nd,rfl⟩⟩;refine⟨_,rfl,?_⟩))
    go_ret2
    exact⟨_,TE,by first|exact Kd.R_nil _ _ _ _ _|exact Kd.N_nil _ _ _ _ _|exact Kd.V_nil _ _ _ _ _|exact Kd.Q_nil _ _ _ _ _|exact Kd.S_nil _ _ _ _ _,TB⟩
def impl_BlockAt.f (c:List Int)(d:Int)(e:Int):Option (List Int×Bool):=(impl_SpanOf.f d (c.length:Int) e).bind fun a=>(if a.2=0 then (some (([]:List Int),false)) else ((impl_Slice.f c a.1 a.2).bind fun b=>(some (b.1,b.2))))
theorem impl_BlockAt.calls {A0:Option Addr}{c0:Nat}{l0:List Int}{a1:Int}{a2:Int}{r1:List Int}{r2:Bool}{w:World}(hr0:Kd.C (Kd.int .u8) w A0 l0.length l0)(hc0:l0.length≤c0)(h:impl_BlockAt.f l0 a1 a2=some (r1,r2)):
    Calls Tryz.prog 69 #[.slice A0 l0.length c0,.int .i64 a1,.int .i64 a2] w fun e w'=>∃v0_:Value,e=.returned (.tuple #[v0_,.bool r2])∧Kd.R (Kd.int .u8) 5 w' w.heap.size (fun _=>True) v0_ r1∧Below w.heap.size w w':=by
  have HR0:=aM hr0
  have HC0:=aM hc0
  clear hr0 hc0
  have HB:=aM (Below.refl w.heap.size w)
  have H:=h
  clear h
  unfold impl_BlockAt.f at H
  replace H:=bE H
  obtain⟨⟨tq1,tq2⟩,A4,H⟩:=H
  dsimp only at H
  by_cases c5:tq2=0
  ·rw[if_pos c5] at H
   have cq1:(tq2==0)=true:=beq_iff_eq.mpr c5
   have cq2:(tq2 != 0)=false:=bne_eq_false_iff_eq.mpr c5
   clear c5
   simp only[Option.some.injEq,Prod.mk.injEq] at H
   obtain⟨rfl,rfl⟩:=H
   go_enter Tryz.func69,Tryz.ntmps69
   go_wp2_with (first|(refine g_C 108 ?_;refine gL (some 15) Tryz.func108 #[.int .i64 a1,.int .i64 (l0.length:Int),.int .i64 a2] ?_;(with_reducible refine(impl_SpanOf.calls A4.out).mono ?_);rintro e wq1 ⟨rfl,hb⟩;refine⟨_,rfl,?_⟩;replace HB:=bS HB hb;clear hb))
   go_ret2
   exact⟨_,TE,by first|exact Kd.R_nil _ _ _ _ _|exact Kd.N_nil _ _ _ _ _|exact Kd.V_nil _ _ _ _ _|exact Kd.Q_nil _ _ _ _ _|exact Kd.S_nil _ _ _ _ _,TB⟩
  ·rw[if_neg c5] at H
   have cq1:(tq2==0)=false:=beq_eq_false_iff_ne.mpr c5
   have cq2:(tq2 != 0)=true:=bne_iff_ne.mpr c5
   replace H:=bE H
   obtain⟨⟨tq3,tq4⟩,Aq1,H⟩:=H
   dsimp only at H
   simp only[Option.some.injEq,Prod.mk.injEq] at H
   obtain⟨rfl,rfl⟩:=H
   go_enter Tryz.func69,Tryz.ntmps69
   go_wp2_with (first|(refine g_C 108 ?_;refine gL (some 15) Tryz.func108 #[.int .i64 a1,.int .i64 (l0.length:Int),.int .i64 a2] ?_;(with_reducible refine(impl_SpanOf.calls A4.out).mono ?_);rintro e wq1 ⟨rfl,hb⟩;refine⟨_,rfl,?_⟩;replace HB:=bS HB hb;clear hb)|(refine g_C 109 ?_;refine gL (some 23) Tryz.func109 #[.slice A0 l0.length c0,.int .i64 tq1,.int .i64 tq2] ?_;(with_reducible refine(impl_Slice.calls ?side1 ?side2 Aq1.out).mono ?_);(case side1=>have X_:=(Kd.C_below HR0.out HB.out);exact TC);(case side2=>exact HC0.out);rintro e wq2 ⟨vq1,rfl,ho0,hb⟩;refine⟨_,rfl,?_⟩;have HOq1:=aM (Kd.R_lower ho0 (below_size TB));replace HB:=bS HB hb;clear ho0 hb))
   go_ret2
   exact⟨_,TE,by have X_:=HOq1.out;exact TR,TB⟩
theorem Zq33_0 {p:Prop}(h:p:=by (with_reducible repeat (first|apply Kd.S_alloc|apply Kd.S_drewN|apply Kd.S_drew));exact(S_off (Kd.S_types ay.out aa.out (by decide)) TO)):p:=h
def impl_Disk_with.f (k:Nat)(d:List Int)(e:List Int)(f:Int)(g:Int)(h:Int)(i:List (S91))(l:Int)(m:Int)(n:List Int)(o:Int)(p:Int)(q:Int):Option (List Int×List Int×Int×Int×Int×(List (S91))×Bool):=(impl_copyDisk.f k d e f g h i).bind fun a=>((impl_copyPut.f l m n o p q).bind fun b=>(if a.2.2.2.2.2.length<2199023255552 then ((some (a.2.2.2.2.2++[(⟨b.1,b.2.1,b.2.2.1,(⟨b.2.2.2.1,b.2.2.2.2.1,b.2.2.2.2.2⟩:S36)⟩:S91)]:List (S91))).bind fun j=>((impl_DiskOk.f k a.1 a.2.1 a.2.2.1 a.2.2.2.1 a.2.2.2.2.1 j).bind fun r=>(if r=true then (some (a.1,a.2.1,a.2.2.1,a.2.2.2.1,a.2.2.2.2.1,j,true)) else ((impl_copyDisk.f k d e f g h i).bind fun c=>(some (c.1,c.2.1,c.2.2.1,c.2.2.2.1,c.2.2.2.2.1,c.2.2.2.2.2,false)))))) else (none)))
theorem impl_Disk_with.mono :∀c d e f g h i j l m a b k,LeO (impl_Disk_with.f k c d e f g h i j l m a b) (impl_Disk_with.f (k+1) c d e f g h i j l m a b):=by
  intro a0 a1 a2 a3 a4 a5 a6 a7 a8 a9 a10 a11 k;have m0_:=@impl_DiskOk.mono;have m1_:=@impl_copyDisk.mono;unfold impl_Disk_with.f;exact LM
def impl_Disk_with.T2 :Bool×List (List Nat×List Nat):=(true,[([],[]),([0],[0]),([],[]),([2],[2]),([3],[3]),([1,4,3],[1,4]),([0,1,2,3,4,5],[]),([6,5,5,0,1,2,3,4,5],[5,6])])
def impl_Disk_with.B2 :List Nat:=[0,1,0,4,12,31,63,127]
theorem impl_Disk_with.tab2 :rtab .any (opsOf Tryz.f73 2)=impl_Disk_with.T2:=by kernel_rfl
theorem impl_Disk_with.bits2 :waitsOk impl_Disk_with.T2.2 impl_Disk_with.B2=true:=by kernel_rfl
theorem impl_Disk_with.calls {k:Nat}{aA:Option Addr}{aE:Nat}{ak:List Int}{aD:Option Addr}{aH:Nat}{al:List Int}{ar:Int}{av:Int}{au:Int}{aG:Option Addr}{aC:Nat}{aj:List (S91)}{am:Int}{ao:Int}{ax:Option Addr}{aw:Nat}{ai:List Int}{an:Int}{aq:Int}{ap:Int}{r1:List Int}{r2:List Int}{r3:Int}{r4:Int}{r5:Int}{r6:List (S91)}{r7:Bool}{w:World}(aZ:Kd.C (Kd.int .u8) w aA ak.length ak)(aY:ak.length≤aE)(bc:Kd.C (Kd.int .u8) w aD al.length al)(bb:al.length≤aH)(ba:Kd.C k91 w aG aj.length aj)(bd:aj.length≤aC)(aX:Kd.C (Kd.int .u8) w ax ai.length ai)(aW:ai.length≤aw)(h:impl_Disk_with.f k ak al ar av au aj am ao ai an aq ap=some (r1,r2,r3,r4,r5,r6,r7)):
  Calls Tryz.prog 73 #[.agg #[.slice aA ak.length aE,.slice aD al.length aH,.int .i64 ar,.int .i64 av,.int .i64 au,.slice aG aj.length aC],.agg #[.int .i64 am,.int .i64 ao,.slice ax ai.length aw,.int .i64 an,.int .i64 aq,.int .i64 ap]] w fun e w'=>∃v0_ v1_ v5_:Value,e=.returned (.tuple #[.agg #[v0_,v1_,.int .i64 r3,.int .i64 r4,.int .i64 r5,v5_],.bool r7])∧Kd.R (Kd.int .u8) 5 w' w.heap.size (fun k_=>some k_≠(v1_:Value).ownBlock) v0_ r1∧Kd.R (Kd.int .u8) 5 w' w.heap.size (fun k_=>some k_≠(v0_:Value).ownBlock) v1_ r2∧Kd.S k91 91 w' w.heap.size (fun k_=>some k_≠(v0_:Value).ownBlock∧some k_≠(v1_:Value).ownBlock) v5_ r6∧Below w.heap.size w w':=by
 have huq1:=Tryz.underlying39;have huq2:=Tryz.underlying91;have HRq1:=aM aZ;have HCq1:=aM aY;clear aZ aY;have HRq2:=aM bc;have HCq2:=aM bb;clear bc bb;have HRq3:=aM ba;have HCq3:=aM bd;clear ba bd;have HRq4:=aM aX;have HCq4:=aM aW;clear aX aW;have HB:=aM (Below.refl w.heap.size w);have H:=h;clear h;unfold impl_Disk_with.f at H;replace H:=bE H;obtain⟨⟨tq1,tq2,tq3,tq4,tq5,tq6⟩,Aq1,H⟩:=H;dsimp only at H;replace H:=bE H;obtain⟨⟨tq7,tq8,tq9,aJ,aN,aQ⟩,Aq2,H⟩:=H;dsimp only at H;replace H:=ifN H;obtain⟨cq1,H⟩:=H;have LMcq1:=aM cq1;clear cq1;obtain⟨aK,aV⟩:∃y_:List (S91),y_=(tq6++[(⟨tq7,tq8,tq9,(⟨aJ,aN,aQ⟩:S36)⟩:S91)]):=⟨_,rfl⟩;replace H:=someE H aV;have Nyq1:=aM aV;clear aV;replace H:=bE H;obtain⟨t765,Aq3,H⟩:=H;go_enter Tryz.func73,Tryz.ntmps73;try go_wp2_with (first|(refine g_D 2 ?_;refine gBx 2 #[.slice aA ak.length aE,.slice aD al.length aH,.int .i64 ar,.int .i64 av,.int .i64 au,.slice aG aj.length aC] 39 ?_;intro gbq1 hg wq1 hbox hb;have ad:=aM (hbox);have GWq1:=gW HB hg;have GEq1:=gW HB hg;replace HB:=bS HB hb;clear hb hbox hg)|(refine g_D 3 ?_;refine gBx 3 #[.int .i64 am,.int .i64 ao,.slice ax ai.length aw,.int .i64 an,.int .i64 aq,.int .i64 ap] 91 ?_;intro gbq2 hg wq2 hbox hb;have ab:=aM (hbox);have GWq2:=gW HB hg;have GEq2:=gW HB hg;obtain⟨NBq1,NBq2⟩:=nB ad hg;replace ad:=mB ad hb;replace HB:=bS HB hb;clear hb hbox hg)|(refine g_D 4 ?_;refine gBx 4 #[.slice none 0 0,.slice none 0 0,.int .i64 0,.int .i64 0,.int .i64 0,.slice none 0 0] 39 ?_;intro gbq3 hg wq3 hbox hb;have ac:=aM (hbox);have GWq3:=gW HB hg;have GEq3:=gW HB hg;obtain⟨NBq3,NBq4⟩:=nB ad hg;obtain⟨NBq5,NBq6⟩:=nB ab hg;replace ad:=mB ad hb;replace ab:=mB ab hb;replace HB:=bS HB hb;clear hb hbox hg;obtain⟨hnbq1,hncq1⟩:=oB NBq1;obtain⟨hnbq2,hncq2⟩:=oB NBq3;obtain⟨hczq1,hczq2,hczq3,hczq4,hczq5,hczq6⟩:=cz6 ad.out;obtain⟨hfzq1,hfzq2,hfzq3,hfzq4,hfzq5,hfzq6⟩:=fz6 ad.out)|(refine g_C 40 ?_;refine gL (some 8) Tryz.func40 #[.agg #[.slice aA ak.length aE,.slice aD al.length aH,.int .i64 ar,.int .i64 av,.int .i64 au,.slice aG aj.length aC]] ?_;(with_reducible refine(impl_copyDisk.calls ?side1 ?side2 ?side3 ?side4 ?side5 ?side6 Aq1.out).mono ?_);(case side1=>have X_:=(Kd.C_below HRq1.out HB.out);exact TC);(case side2=>exact HCq1.out);(case side3=>have X_:=(Kd.C_below HRq2.out HB.out);exact TC);(case side4=>exact HCq2.out);(case side5=>have X_:=(Kd.C_below HRq3.out HB.out);exact TC);(case side6=>exact HCq3.out);rintro e wq4 ⟨vq1,vq2,vq3,rfl,ah,az,aI,hb⟩;refine⟨_,rfl,?_⟩;have af:=aM (Kd.R_lower ah (below_size TB));have ae:=aM (Kd.R_lower az (below_size TB));have ag:=aM (Kd.S_lower (Kd.S_newB aI (g:=gbq2) (o:=.cells #[.int .i64 am,.int .i64 ao,.slice ax ai.length aw,.int .i64 an,.int .i64 aq,.int .i64 ap] 91 (0,0)) TK) (below_size TB));replace ad:=mB ad hb;replace ab:=mB ab hb;replace ac:=mB ac hb;replace HB:=bS HB hb;clear ah az aI hb)|(refine g_D 6 ?_;refine gBx 6 #[.slice none 0 0,.slice none 0 0,.int .i64 0,.int .i64 0,.int .i64 0,.slice none 0 0] 39 ?_;intro gbq4 hg wq5 hbox hb;have aa:=aM (hbox);have GWq4:=gW HB hg;have GEq4:=gW HB hg;obtain⟨NBq7,NBq8⟩:=nB ad hg;obtain⟨NBq9,NBq10⟩:=nB ab hg;obtain⟨NBq11,NBq12⟩:=nB ac hg;replace af:=mR af hb;replace ae:=mR ae hb;replace ag:=aM (Kd.S_below (by have X_:=ag.out;exact TS) hb);replace ad:=mB ad hb;replace ab:=mB ab hb;replace ac:=mB ac hb;replace HB:=bS HB hb;clear hb hbox hg;obtain⟨Aoq1,coq1,eoq1⟩:=Kd.R_slice af.out;subst eoq1;obtain⟨hnbq3,hncq3⟩:=oB NBq8;obtain⟨hnbq4,hncq4⟩:=oB NBq10;obtain⟨hnbq5,hncq5⟩:=oB NBq12;obtain⟨hczq7,hczq8,hczq9,hczq10,hczq11,hczq12⟩:=cz6 aa.out;obtain⟨hfzq7,hfzq8,hfzq9,hfzq10,hfzq11,hfzq12⟩:=fz6 aa.out;obtain⟨Aoq2,coq2,eoq2⟩:=Kd.R_slice ae.out;subst eoq2;obtain⟨Aoq3,coq3,eoq3⟩:=Kd.S_slice ag.out;subst eoq3))
 generalize hX_:(((((wq5.setCell ⟨gbq4,0,none⟩ (.slice Aoq1 tq1.length coq1)).setCell ⟨gbq4,1,none⟩ (.slice Aoq2 tq2.length coq2)).setCell ⟨gbq4,2,none⟩ (.int .i64 tq3)).setCell ⟨gbq4,3,none⟩ (.int .i64 tq4)).setCell ⟨gbq4,4,none⟩ (.int .i64 tq5)).setCell ⟨gbq4,5,none⟩ (.slice Aoq3 tq6.length coq3)=wq6;replace af:Aside0 (Kd.R (Kd.int .u8) 5 wq6 w.heap.size (fun k_=>some k_≠(.slice Aoq2 tq2.length coq2:Value).ownBlock) (.slice Aoq1 tq1.length coq1) tq1):=⟨by rw[← hX_];(with_reducible repeat (first|apply Kd.R_alloc|apply Kd.R_drewN|apply Kd.R_drew));exact Kd.R_mono (RK1 (Kd.R_types af.out aa.out (by decide))) (fun _ hk=>hk.1)⟩;replace ae:Aside0 (Kd.R (Kd.int .u8) 5 wq6 w.heap.size (fun k_=>some k_≠(.slice Aoq1 tq1.length coq1:Value).ownBlock) (.slice Aoq2 tq2.length coq2) tq2):=⟨by rw[← hX_];(with_reducible repeat (first|apply Kd.R_alloc|apply Kd.R_drewN|apply Kd.R_drew));exact Kd.R_mono (RK1 (Kd.R_types ae.out aa.out (by decide))) (fun _ hk=>hk.1)⟩;replace ag:Aside0 (Kd.S k91 91 wq6 w.heap.size (fun k_=>some k_≠(.slice Aoq1 tq1.length coq1:Value).ownBlock∧some k_≠(.slice Aoq2 tq2.length coq2:Value).ownBlock∧k_≠gbq2) (.slice Aoq3 tq6.length coq3) tq6):=⟨by rw[← hX_];(with_reducible repeat (first|apply Kd.S_alloc|apply Kd.S_drewN|apply Kd.S_drew));exact Kd.S_mono (SK1 (Kd.S_types ag.out aa.out (by decide))) (fun _ hk=>⟨hk.1.1.1,⟨hk.1.1.2,hk.1.2⟩⟩)⟩;replace ad:Aside0 (wq6.heap[gbq1]?=some (.cells #[.slice aA ak.length aE,.slice aD al.length aH,.int .i64 ar,.int .i64 av,.int .i64 au,.slice aG aj.length aC] 39 (0,0))):=⟨by rw[← hX_];exact(TZ ad)⟩;replace ab:Aside0 (wq6.heap[gbq2]?=some (.cells #[.int .i64 am,.int .i64 ao,.slice ax ai.length aw,.int .i64 an,.int .i64 aq,.int .i64 ap] 91 (0,0))):=⟨by rw[← hX_];exact(TZ ab)⟩;replace ac:Aside0 (wq6.heap[gbq3]?=some (.cells #[.slice none 0 0,.slice none 0 0,.int .i64 0,.int .i64 0,.int .i64 0,.slice none 0 0] 39 (0,0))):=⟨by rw[← hX_];exact(TZ ac)⟩;replace aa:Aside0 (wq6.heap[gbq4]?=some (.cells #[.slice Aoq1 tq1.length coq1,.slice Aoq2 tq2.length coq2,.int .i64 tq3,.int .i64 tq4,.int .i64 tq5,.slice Aoq3 tq6.length coq3] 39 (0,0))):=⟨by rw[← hX_];exact(blk_put (blk_put (blk_put (blk_put (blk_put (blk_put (cs:=#[.slice none 0 0,.slice none 0 0,.int .i64 0,.int .i64 0,.int .i64 0,.slice none 0 0]) (TZ aa) 0 _ rfl) 1 _ rfl) 2 _ rfl) 3 _ rfl) 4 _ rfl) 5 _ rfl)⟩;replace HB:Aside0 (Below w.heap.size w wq6):=⟨by rw[← hX_];exact TB⟩;clear hX_;replace af:=rD af;replace ae:=rD ae;replace ag:=aM (Kd.S_drew ag.out);replace ad:=bD ad;replace ab:=bD ab;replace ac:=bD ac;replace aa:=bD aa;replace HB:=aM (below_drew1 HB.out);refine st_ (n:=8) (ds:=[7]) (Array.replicate 8 false) (hJ6 aa.out (hK6 ab.out)) (by kernel_rfl) rfl rfl (fun hHeld=>?_);refine with_tabW impl_Disk_with.tab2 impl_Disk_with.bits2 (fun HT_ HW_=>?_);generalize wq6.drew=wq7 at af ae ag ad ab ac aa HB af ae ag hHeld ⊢;refine ppq 0 9 ?_;refine ptq 1 10 ?_;refine ptq 2 11 ?_;refine poq 3 12 (fun K hK=>?_);refine gG Tryz.func75 #[.agg #[.int .i64 am,.int .i64 ao,.slice ax ai.length aw,.int .i64 an,.int .i64 aq,.int .i64 ap]] ?_;with_reducible refine(impl_copyPut.calls ?side1 ?side2 Aq2.out).mono ?_
 (case side1=>have X_:=(Kd.C_below HRq4.out HB.out);exact TC);(case side2=>exact HCq4.out);rintro e wq8 ⟨vq4,rfl,ah,hb⟩;refine⟨_,rfl,?_⟩;have n0_:=aM (Kd.R_elder' (TRf af) (Kd.R_base ah) hb);have n1_:=aM (Kd.R_elder' (TRf ae) (Kd.R_base ah) hb);have n2_:=aM (Kd.S_elder' (by have X_:=ag.out;exact TS) (Kd.R_base ah) hb);have n3_:=aM (Kd.R_lower (Kd.R_new' (Kd.R_new' ah (Kd.R_lt (TRf af))) (Kd.R_lt (TRf ae))) (below_size TB));have n4_:=mB ad hb;have n5_:=mB ab hb;have n6_:=mB ac hb;have n7_:=mB aa hb;have n8_:=bS HB hb;clear af;clear ae;clear ag;clear ad;clear ab;clear ac;clear aa;clear HB;have af:=n0_;have ae:=n1_;have ag:=n2_;have aR:=n3_;have ad:=n4_;have ab:=n5_;have ac:=n6_;have aa:=n7_;have HB:=n8_;clear n0_ n1_ n2_ n3_ n4_ n5_ n6_ n7_ n8_;(try clear hb);(try clear hk);(try clear ah);obtain⟨Aoq4,coq4,eoq4⟩:=Kd.R_slice aR.out;(first|subst eoq4|(injection eoq4 with f1_ f2_ f3_;have f4_:=f1_.symm;have f5_:=f3_.symm;clear f1_ f2_ f3_;subst f4_;subst f5_));refine hK.out _ _ (cJ6 aa.out (cK6 ab.out)) (fun hHeld=>?_);clear hK K;refine nR ?_;refine poq 4 13 (fun K hK=>?_);refine value_ (w1:=?_) (v:=?_) (by rfl) rfl ?_ ?_;rotate_left 2
 ·go_simp
  constructor
  ·rfl
  ·rfl
 refine hK.out _ _ ⟨(blk_cell (blk_alloc aa.out _) 0).trans rfl,(blk_cell (blk_alloc aa.out _) 1).trans rfl,(blk_cell (blk_alloc aa.out _) 2).trans rfl,(blk_cell (blk_alloc aa.out _) 3).trans rfl,(blk_cell (blk_alloc aa.out _) 4).trans rfl,(blk_cell (blk_alloc aa.out _) 5).trans rfl,(blk_cell (blk_alloc ab.out _) 0).trans rfl,(blk_cell (blk_alloc ab.out _) 1).trans rfl,(blk_cell (blk_alloc ab.out _) 2).trans rfl,(blk_cell (blk_alloc ab.out _) 3).trans rfl,(blk_cell (blk_alloc ab.out _) 4).trans rfl,(blk_cell (blk_alloc ab.out _) 5).trans rfl⟩ (fun hHeld=>?_);clear hK K;refine nR ?_;refine poq 5 14 (fun K hK=>?_);refine Kd.S_append_step k91 (w0:=w) w.heap.size (by rfl) (.tmp 10) (.tmp 13) 37 91 (.agg #[(.int .i64 0),(.int .i64 0),(.slice none 0 0),(.int .i64 0),(.int .i64 0),(.int .i64 0)]) 64 rfl Tryz.underlying37 info91 rfl (by decide) (by omega) (.slice Aoq3 tq6.length coq3) tq6 (⟨tq7,tq8,tq9,(⟨aJ,aN,aQ⟩:S36)⟩:S91) [.int .i64 tq7,.int .i64 tq8,.slice Aoq4 tq9.length coq4,.int .i64 aJ,.int .i64 aN,.int .i64 aQ] (fun k_=>some k_≠(.slice Aoq1 tq1.length coq1:Value).ownBlock∧some k_≠(.slice Aoq2 tq2.length coq2:Value).ownBlock∧k_≠gbq2) (fun k_=>some k_=(.slice Aoq4 tq9.length coq4:Value).ownBlock) rfl rfl ?aP (fun k_ hk_=>((Kd.R_mono (ok':=fun k_=>((fun k_=>some k_≠(.slice Aoq1 tq1.length coq1:Value).ownBlock∧some k_≠(.slice Aoq2 tq2.length coq2:Value).ownBlock∧k_≠gbq2)) k_∧some k_≠(.slice Aoq3 tq6.length coq3:Value).ownBlock) (Kd.R_types (Kd.R_apart' (aR.out) (Kd.S_typed ag.out) (by decide)) ab.out (by decide)) (fun k_ hk=>⟨⟨hk.1.1.1.2,⟨hk.1.1.2,hk.2⟩⟩,hk.1.2⟩))).1 k_ hk_.symm) ?aF ?aO ?aB ?aS ?aL ?_;(case aP=>exact k91_mkM _ _ _ (⟨tq7,tq8,tq9,(⟨aJ,aN,aQ⟩:S36)⟩:S91) (Kd.R_mono (Kd.R_tight rfl (Kd.R_mono (ok':=fun k_=>((fun k_=>some k_≠(.slice Aoq1 tq1.length coq1:Value).ownBlock∧some k_≠(.slice Aoq2 tq2.length coq2:Value).ownBlock∧k_≠gbq2)) k_∧some k_≠(.slice Aoq3 tq6.length coq3:Value).ownBlock) (Kd.R_types (Kd.R_apart' (aR.out) (Kd.S_typed ag.out) (by decide)) ab.out (by decide)) (fun k_ hk=>⟨⟨hk.1.1.1.2,⟨hk.1.1.2,hk.2⟩⟩,hk.1.2⟩))) (fun _ h_=>h_)));(case aB=>exact TB);(case aF=>exact(fun k_ hk=>⟨Kd.fresh' (Kd.R_lt (TRf af)) k_ hk,Kd.fresh' (Kd.R_lt (TRf ae)) k_ hk,Kd.freshB (g:=gbq2) (o:=.cells #[.int .i64 am,.int .i64 ao,.slice ax ai.length aw,.int .i64 an,.int .i64 aq,.int .i64 ap] 91 (0,0)) TK k_ hk⟩));(case aO=>exact(by (with_reducible repeat (first|apply Kd.S_alloc|apply Kd.S_drewN|apply Kd.S_drew));exact Kd.S_mono ag.out (fun k_ hk=>⟨⟨hk.1.1,⟨hk.1.2.1,hk.1.2.2⟩⟩,fun e_=>hk.2 e_⟩)));(case aS=>exact(below_size TB));(case aL=>have:=LMcq1.out;omega);intro vq5 wq9 ho hb hg hat;rw[← Nyq1.out] at ho;have n0_:=aM (blk_grown (g:=gbq1) (o:=.cells #[.slice aA ak.length aE,.slice aD al.length aH,.int .i64 ar,.int .i64 av,.int .i64 au,.slice aG aj.length aC] 39 (0,0)) TK hg (Kd.S_ne ag.out ad.out (by decide)));have n1_:=aM (blk_grown (g:=gbq2) (o:=.cells #[.int .i64 am,.int .i64 ao,.slice ax ai.length aw,.int .i64 an,.int .i64 aq,.int .i64 ap] 91 (0,0)) TK hg (Kd.S_away ag.out (fun _ hk=>hk.1.2.2)));have n2_:=aM (blk_grown (g:=gbq3) (o:=.cells #[.slice none 0 0,.slice none 0 0,.int .i64 0,.int .i64 0,.int .i64 0,.slice none 0 0] 39 (0,0)) TK hg (Kd.S_ne ag.out ac.out (by decide)));have n3_:=aM (Kd.R_over' (TRf af) (Kd.S_typed (by have X_:=ag.out;exact TS)) (by decide) hg);have n4_:=aM (Kd.R_over' (TRf ae) (Kd.S_typed (by have X_:=ag.out;exact TS)) (by decide) hg);have n5_:=aM (blk_grown (g:=gbq4) (o:=.cells #[.slice Aoq1 tq1.length coq1,.slice Aoq2 tq2.length coq2,.int .i64 tq3,.int .i64 tq4,.int .i64 tq5,.slice Aoq3 tq6.length coq3] 39 (0,0)) TK hg (Kd.S_ne ag.out aa.out (by decide)));have n6_:=aM (hb);have n7_:=aM (ho);clear ad;clear ab;clear ac;clear af;clear ae;clear aa;clear HB;clear ag;clear aR;have ad:=n0_;have ab:=n1_;have ac:=n2_;have af:=n3_;have ae:=n4_;have aa:=n5_;have HB:=n6_;have ay:=n7_;clear n0_ n1_ n2_ n3_ n4_ n5_ n6_ n7_;clear ho hb hg hat;obtain⟨aU,aT,eoq5⟩:=Kd.S_slice ay.out;(first|subst eoq5|(injection eoq5 with f1_ f2_ f3_;have f4_:=f1_.symm;have f5_:=f3_.symm;clear f1_ f2_ f3_;subst f4_;subst f5_));refine hK.out _ _ (cJ6 aa.out (cK6 ab.out)) (fun hHeld=>?_);clear hK K;refine nR ?_;refine ppq 6 15 ?_;refine pL 7 none (fun K hK=>?_);have hsq1:wq9.cell? ⟨gbq4,5,none⟩=some (.slice Aoq3 tq6.length coq3):=bC aa 5;have hfsq1:=blk_frozen aa.out 5;have hnsq1:=NBq7.out;have hnsq2:=NBq9.out;have hnsq3:=NBq11.out;have hmsq1:=NBq8.out;have hmsq2:=NBq10.out;have hmsq3:=NBq12.out;refine skip_ (w1:=?_) (by rfl) rfl ?_ ?_;rotate_left
 ·go_simp;rfl
 refine hK.out _ _ ?_;clear hK K;refine done_ (done_of HT_.out (by kernel_rfl)) ?_;obtain⟨hczq13,hczq14,hczq15,hczq16,hczq17,hczq18⟩:=cz6 aa.out;obtain⟨hfzq13,hfzq14,hfzq15,hfzq16,hfzq17,hfzq18⟩:=fz6 aa.out;try go_wp2_with (first|(refine g_C 66 ?_;refine gL (some 17) Tryz.func66 #[.agg #[.slice Aoq1 tq1.length coq1,.slice Aoq2 tq2.length coq2,.int .i64 tq3,.int .i64 tq4,.int .i64 tq5,.slice aU aK.length aT]] ?_;(with_reducible refine(impl_DiskOk.calls ?side1 ?side2 ?side3 ?side4 ?side5 ?side6 Aq3.out).mono ?_);(case side1=>exact(Kd.R_reads' (TY af aa)).2.2);(case side2=>exact(Kd.R_reads' af.out).2.1);(case side3=>exact(Kd.R_reads' (TY ae aa)).2.2);(case side4=>exact(Kd.R_reads' ae.out).2.1);(case side5=>refine(Kd.S_reads' (e:=91) (base:=w.heap.size) (ok:=fun k_=>(some k_≠(.slice Aoq1 tq1.length coq1:Value).ownBlock∧(some k_≠(.slice Aoq2 tq2.length coq2:Value).ownBlock∧k_≠gbq2))) (n:=aK.length) (c:=aT) ?_).2.2;exact(by exact Zq33_0));(case side6=>exact(Kd.S_reads' ay.out).2.1);rintro e wq10 ⟨rfl,hb⟩;refine⟨_,rfl,?_⟩;replace af:=aM (Kd.R_below (TY af aa) hb);replace ae:=aM (Kd.R_below (TY ae aa) hb);replace ay:=aM (Kd.S_below (by exact Zq33_0) hb);replace ad:=mB ad hb;replace ab:=mB ab hb;replace ac:=mB ac hb;replace aa:=aM (blk_below (g:=gbq4) (o:=.cells #[.slice Aoq1 tq1.length coq1,.slice Aoq2 tq2.length coq2,.int .i64 tq3,.int .i64 tq4,.int .i64 tq5,.slice aU aK.length aT] 39 (0,0)) (blk_put (cs:=#[.slice Aoq1 tq1.length coq1,.slice Aoq2 tq2.length coq2,.int .i64 tq3,.int .i64 tq4,.int .i64 tq5,.slice Aoq3 tq6.length coq3]) (TZ aa) 5 _ rfl) hb);replace HB:=bS HB hb;clear hb)|(refine g_D 18 ?_;generalize hG_:wpList _ _ _ _ _ _=G_))
 subst hG_
 by_cases cq2:t765=true
 ·subst cq2;replace H:=ifT H;simp only[Option.some.injEq,Prod.mk.injEq] at H;obtain⟨rfl,rfl,rfl,rfl,rfl,rfl,rfl⟩:=H;obtain⟨hnbq6,hncq6⟩:=oB NBq8;obtain⟨hnbq7,hncq7⟩:=oB NBq10;obtain⟨hnbq8,hncq8⟩:=oB NBq12;obtain⟨bg,bt,bl,bw,bk,bf⟩:=cz6 aa.out;obtain⟨bG,br,bh,bs,bv,bp⟩:=fz6 aa.out;obtain⟨hnbq9,hncq9⟩:=oB NBq4;obtain⟨bq,bm⟩:=oB NBq6;obtain⟨bA,be,bx,bj,bi,bz⟩:=cz6 ac.out;obtain⟨bH,bu,bn,bB,bF,bo⟩:=fz6 ac.out;go_wp2
  refine bodyPost_ret (results_ct rfl _ _ gbq3 39 #[.slice Aoq1 tq1.length coq1,.slice Aoq2 tq2.length coq2,.int .i64 tq3,.int .i64 tq4,.int .i64 tq5,.slice aU aK.length aT] (0,0) _ rfl (blk_put (blk_put (blk_put (blk_put (blk_put (blk_put (cs:=#[.slice none 0 0,.slice none 0 0,.int .i64 0,.int .i64 0,.int .i64 0,.slice none 0 0]) (TZ ac) 0 _ rfl) 1 _ rfl) 2 _ rfl) 3 _ rfl) 4 _ rfl) 5 _ rfl) Tryz.underlying39 rfl (by kernel_rfl)) rfl ?_;exact⟨_,_,_,TE,by (with_reducible repeat (first|apply Kd.R_alloc|apply Kd.R_drewN|apply Kd.R_drew));exact Kd.R_mono (RK1 (Kd.R_types af.out ac.out (by decide))) (fun _ hk=>hk.1.1),by (with_reducible repeat (first|apply Kd.R_alloc|apply Kd.R_drewN|apply Kd.R_drew));exact Kd.R_mono (RK1 (Kd.R_types ae.out ac.out (by decide))) (fun _ hk=>hk.1.1),by (with_reducible repeat (first|apply Kd.S_alloc|apply Kd.S_drewN|apply Kd.S_drew));exact Kd.S_mono (SK1 (Kd.S_types ay.out ac.out (by decide))) (fun _ hk=>⟨hk.1.1,hk.1.2.1⟩),TB⟩
 ·replace cq2:=b_F cq2;subst cq2;replace H:=ifF H;replace H:=bE H;obtain⟨⟨tq13,tq14,tq15,tq16,tq17,tq18⟩,Aq4,H⟩:=H;dsimp only at H;simp only[Option.some.injEq,Prod.mk.injEq] at H;obtain⟨rfl,rfl,rfl,rfl,rfl,rfl,rfl⟩:=H;obtain⟨hnbq6,hncq6⟩:=oB NBq1;obtain⟨hnbq7,hncq7⟩:=oB NBq3;obtain⟨hnbq8,hncq8⟩:=oB NBq7;obtain⟨bg,bt,bl,bw,bk,bf⟩:=cz6 ad.out;obtain⟨bG,br,bh,bs,bv,bp⟩:=fz6 ad.out;go_wp2_with (first|(refine g_C 40 ?_;refine gL (some 20) Tryz.func40 #[.agg #[.slice aA ak.length aE,.slice aD al.length aH,.int .i64 ar,.int .i64 av,.int .i64 au,.slice aG aj.length aC]] ?_;(with_reducible refine(impl_copyDisk.calls ?side1 ?side2 ?side3 ?side4 ?side5 ?side6 Aq4.out).mono ?_);(case side1=>repeat (first|exact(Kd.C_below HRq1.out TB)|(with_reducible refine Kd.C_alloc ?_ _)|(with_reducible refine Kd.C_drewN ?_ _)|(with_reducible refine Kd.C_drew ?_)));(case side2=>exact HCq1.out);(case side3=>repeat (first|exact(Kd.C_below HRq2.out TB)|(with_reducible refine Kd.C_alloc ?_ _)|(with_reducible refine Kd.C_drewN ?_ _)|(with_reducible refine Kd.C_drew ?_)));(case side4=>exact HCq2.out);(case side5=>repeat (first|exact(Kd.C_below HRq3.out TB)|(with_reducible refine Kd.C_alloc ?_ _)|(with_reducible refine Kd.C_drewN ?_ _)|(with_reducible refine Kd.C_drew ?_)));(case side6=>exact HCq3.out);rintro e wq11 ⟨vq6,vq7,vq8,rfl,ah,az,aI,hb⟩;refine⟨_,rfl,?_⟩;have HOq6:=aM (Kd.R_lower (Kd.R_new' (Kd.R_new' ah (Kd.R_lt (TRf af))) (Kd.R_lt (TRf ae))) (below_size TB));have HOq7:=aM (Kd.R_lower (Kd.R_new' (Kd.R_new' az (Kd.R_lt (TRf af))) (Kd.R_lt (TRf ae))) (below_size TB));have HOq8:=aM (Kd.S_lower (Kd.S_newB (Kd.S_new' (Kd.S_new' (Kd.S_new' aI (Kd.R_lt (TRf af))) (Kd.R_lt (TRf ae))) (Kd.S_lt (by have X_:=ay.out;exact TS))) (g:=gbq2) (o:=.cells #[.int .i64 am,.int .i64 ao,.slice ax ai.length aw,.int .i64 an,.int .i64 aq,.int .i64 ap] 91 (0,0)) TK) (below_size TB));replace af:=aM (Kd.R_mono (Kd.R_told (Kd.R_told (Kd.R_old (TRf af) hb) (Kd.R_base ah)) (Kd.R_base az)) (fun _ h_=>h_.1));replace ae:=aM (Kd.R_mono (Kd.R_told (Kd.R_told (Kd.R_old (TRf ae) hb) (Kd.R_base ah)) (Kd.R_base az)) (fun _ h_=>h_.1));replace ay:=aM (Kd.S_mono (Kd.S_told (Kd.S_told (Kd.S_told (Kd.S_old (by have X_:=ay.out;exact TS) hb) (Kd.R_base ah)) (Kd.R_base az)) (Kd.S_base aI)) (fun _ h_=>h_.1));replace ad:=mB ad hb;replace ab:=mB ab hb;replace ac:=mB ac hb;replace aa:=mB aa hb;replace HB:=bS HB hb;clear ah az aI hb;obtain⟨Aoq6,coq6,eoq6⟩:=Kd.R_slice HOq6.out;subst eoq6;obtain⟨hnbq9,hncq9⟩:=oB NBq6;obtain⟨bq,bm⟩:=oB NBq11;obtain⟨bA,be,bx,bj,bi,bz⟩:=cz6 ac.out;obtain⟨bH,bu,bn,bB,bF,bo⟩:=fz6 ac.out;obtain⟨Aoq7,coq7,eoq7⟩:=Kd.R_slice HOq7.out;subst eoq7;obtain⟨Aoq8,coq8,eoq8⟩:=Kd.S_slice HOq8.out;subst eoq8))
  refine bodyPost_ret (results_ct rfl _ _ gbq3 39 #[.slice Aoq6 tq13.length coq6,.slice Aoq7 tq14.length coq7,.int .i64 tq15,.int .i64 tq16,.int .i64 tq17,.slice Aoq8 tq18.length coq8] (0,0) _ rfl (blk_put (blk_put (blk_put (blk_put (blk_put (blk_put (cs:=#[.slice none 0 0,.slice none 0 0,.int .i64 0,.int .i64 0,.int .i64 0,.slice none 0 0]) (TZ ac) 0 _ rfl) 1 _ rfl) 2 _ rfl) 3 _ rfl) 4 _ rfl) 5 _ rfl) Tryz.underlying39 rfl (by kernel_rfl)) rfl ?_;exact⟨_,_,_,TE,by (with_reducible repeat (first|apply Kd.R_alloc|apply Kd.R_drewN|apply Kd.R_drew));exact Kd.R_mono (RK1 (Kd.R_types HOq6.out ac.out (by decide))) (fun _ hk=>hk.1.1.1),by (with_reducible repeat (first|apply Kd.R_alloc|apply Kd.R_drewN|apply Kd.R_drew));exact Kd.R_mono (RK1 (Kd.R_types HOq7.out ac.out (by decide))) (fun _ hk=>hk.1.1.1),by (with_reducible repeat (first|apply Kd.S_alloc|apply Kd.S_drewN|apply Kd.S_drew));exact Kd.S_mono (SK1 (Kd.S_types HOq8.out ac.out (by decide))) (fun _ hk=>⟨hk.1.1.1.1.1.1,hk.1.1.1.1.1.2⟩),TB⟩
theorem Zq34_0 {p:Prop}(h:p:=by repeat (first|exact(Kd.C_below HRq1.out TB)|(with_reducible refine Kd.C_alloc ?_ _)|(with_reducible refine Kd.C_drewN ?_ _)|(with_reducible refine Kd.C_drew ?_))):p:=h
theorem Zq34_1 {p:Prop}(h:p:=by repeat (first|exact(Kd.C_below HRq2.out TB)|(with_reducible refine Kd.C_alloc ?_ _)|(with_reducible refine Kd.C_drewN ?_ _)|(with_reducible refine Kd.C_drew ?_))):p:=h
theorem Zq34_2 {p:Prop}(h:p:=by repeat (first|exact(Kd.C_below HRq3.out TB)|(with_reducible refine Kd.C_alloc ?_ _)|(with_reducible refine Kd.C_drewN ?_ _)|(with_reducible refine Kd.C_drew ?_))):p:=h
def impl_PutBytes.f (k:Nat)(c:List Int)(d:List Int)(e:Int)(f:Int)(g:Int)(h:List (S91))(j:Int)(l:Int)(m:List Int):Option (List Int×List Int×Int×Int×Int×(List (S91))×Bool):=(impl_isSlot.f j).bind fun i=>(if i=true then ((impl_Disk_with.f k c d e f g h j l m 0 0 0).bind fun a=>(some (a.1,a.2.1,a.2.2.1,a.2.2.2.1,a.2.2.2.2.1,a.2.2.2.2.2.1,a.2.2.2.2.2.2))) else ((impl_copyDisk.f k c d e f g h).bind fun b=>(some (b.1,b.2.1,b.2.2.1,b.2.2.2.1,b.2.2.2.2.1,b.2.2.2.2.2,false))))
theorem impl_PutBytes.mono :∀a b c d e f g h i k,LeO (impl_PutBytes.f k a b c d e f g h i) (impl_PutBytes.f (k+1) a b c d e f g h i):=by
  intro a0 a1 a2 a3 a4 a5 a6 a7 a8 k;have m0_:=@impl_Disk_with.mono;have m1_:=@impl_copyDisk.mono;unfold impl_PutBytes.f;exact LM
theorem Yq34_0 {p:Prop}(h:p:=by
 refine bodyPost_ret (results_ct rfl _ _ gbq2 39 #[.slice Aoq1 tq1.length coq1,.slice Aoq2 tq2.length coq2,.int .i64 tq3,.int .i64 tq4,.int .i64 tq5,.slice Aoq3 tq6.length coq3] (0,0) _ rfl (blk_put (blk_put (blk_put (blk_put (blk_put (blk_put (cs:=#[.slice none 0 0,.slice none 0 0,.int .i64 0,.int .i64 0,.int .i64 0,.slice none 0 0]) (TZ BKq2) 0 _ rfl) 1 _ rfl) 2 _ rfl) 3 _ rfl) 4 _ rfl) 5 _ rfl) Tryz.underlying39 rfl (by kernel_rfl)) rfl ?_;exact⟨_,_,_,TE,by (with_reducible repeat (first|apply Kd.R_alloc|apply Kd.R_drewN|apply Kd.R_drew));exact Kd.R_mono (RK1 (Kd.R_types HOq1.out BKq2.out (by decide))) (fun _ hk=>hk.1),by (with_reducible repeat (first|apply Kd.R_alloc|apply Kd.R_drewN|apply Kd.R_drew));exact Kd.R_mono (RK1 (Kd.R_types HOq2.out BKq2.out (by decide))) (fun _ hk=>hk.1),by (with_reducible repeat (first|apply Kd.S_alloc|apply Kd.S_drewN|apply Kd.S_drew));exact Kd.S_mono (SK1 (Kd.S_types HOq3.out BKq2.out (by decide))) (fun _ hk=>⟨hk.1.1,hk.1.2⟩),TB⟩):p:=h
theorem impl_PutBytes.calls {k:Nat}{A0_0:Option Addr}{c0_0:Nat}{l0_0:List Int}{A0_1:Option Addr}{c0_1:Nat}{l0_1:List Int}{a0_2:Int}{a0_3:Int}{a0_4:Int}{A0_5:Option Addr}{c0_5:Nat}{l0_5:List (S91)}{a1:Int}{a2:Int}{A3:Option Addr}{c3:Nat}{l3:List Int}{r1:List Int}{r2:List Int}{r3:Int}{r4:Int}{r5:Int}{r6:List (S91)}{r7:Bool}{w:World}(hr0_0:Kd.C (Kd.int .u8) w A0_0 l0_0.length l0_0)(hc0_0:l0_0.length≤c0_0)(hr0_1:Kd.C (Kd.int .u8) w A0_1 l0_1.length l0_1)(hc0_1:l0_1.length≤c0_1)(hr0_5:Kd.C k91 w A0_5 l0_5.length l0_5)(hc0_5:l0_5.length≤c0_5)(hr3:Kd.C (Kd.int .u8) w A3 l3.length l3)(hc3:l3.length≤c3)(h:impl_PutBytes.f k l0_0 l0_1 a0_2 a0_3 a0_4 l0_5 a1 a2 l3=some (r1,r2,r3,r4,r5,r6,r7)):
    Calls Tryz.prog 70 #[.agg #[.slice A0_0 l0_0.length c0_0,.slice A0_1 l0_1.length c0_1,.int .i64 a0_2,.int .i64 a0_3,.int .i64 a0_4,.slice A0_5 l0_5.length c0_5],.int .i64 a1,.int .i64 a2,.slice A3 l3.length c3] w fun e w'=>∃v0_ v1_ v5_:Value,e=.returned (.tuple #[.agg #[v0_,v1_,.int .i64 r3,.int .i64 r4,.int .i64 r5,v5_],.bool r7])∧Kd.R (Kd.int .u8) 5 w' w.heap.size (fun k_=>some k_≠(v1_:Value).ownBlock) v0_ r1∧Kd.R (Kd.int .u8) 5 w' w.heap.size (fun k_=>some k_≠(v0_:Value).ownBlock) v1_ r2∧Kd.S k91 91 w' w.heap.size (fun k_=>some k_≠(v0_:Value).ownBlock∧some k_≠(v1_:Value).ownBlock) v5_ r6∧Below w.heap.size w w':=by
 have huq1:=Tryz.underlying39
 have huq2:=Tryz.underlying91
 have HRq1:=aM hr0_0
 have HCq1:=aM hc0_0
 clear hr0_0 hc0_0
 have HRq2:=aM hr0_1
 have HCq2:=aM hc0_1
 clear hr0_1 hc0_1
 have HRq3:=aM hr0_5
 have HCq3:=aM hc0_5
 clear hr0_5 hc0_5
 have HRq4:=aM hr3
 have HCq4:=aM hc3
 clear hr3 hc3
 have HB:=aM (Below.refl w.heap.size w)
 have H:=h
 clear h
 unfold impl_PutBytes.f at H
 replace H:=bE H
 obtain⟨t780,Aq1,H⟩:=H
 go_enter Tryz.func70,Tryz.ntmps70
 go_wp2_with (first|(refine g_D 4 ?_;refine gBx 4 #[.slice A0_0 l0_0.length c0_0,.slice A0_1 l0_1.length c0_1,.int .i64 a0_2,.int .i64 a0_3,.int .i64 a0_4,.slice A0_5 l0_5.length c0_5] 39 ?_;intro gbq1 hg wq1 hbox hb;have BKq1:=aM (hbox);have GWq1:=gW HB hg;have GEq1:=gW HB hg;replace HB:=bS HB hb;clear hb hbox hg)|(refine g_D 8 ?_;refine gBx 8 #[.slice none 0 0,.slice none 0 0,.int .i64 0,.int .i64 0,.int .i64 0,.slice none 0 0] 39 ?_;intro gbq2 hg wq2 hbox hb;have BKq2:=aM (hbox);have GWq2:=gW HB hg;have GEq2:=gW HB hg;obtain⟨NBq1,NBq2⟩:=nB BKq1 hg;replace BKq1:=mB BKq1 hb;replace HB:=bS HB hb;clear hb hbox hg)|(refine g_C 110 ?_;refine gL (some 11) Tryz.func110 #[.int .i64 a1] ?_;(with_reducible refine(impl_isSlot.calls Aq1.out).mono ?_);rintro e w' ⟨rfl,⟨nd,rfl⟩⟩;refine⟨_,rfl,?_⟩)|(refine g_D 12 ?_;generalize hG_:wpList _ _ _ _ _ _=G_))
 subst hG_
 obtain⟨hnbq1,hncq1⟩:=oB NBq1
 obtain⟨hczq1,hczq2,hczq3,hczq4,hczq5,hczq6⟩:=cz6 BKq1.out
 obtain⟨hfzq1,hfzq2,hfzq3,hfzq4,hfzq5,hfzq6⟩:=fz6 BKq1.out
 by_cases cq1:t780=true
 ·subst cq1
  replace H:=ifT H
  replace H:=bE H
  obtain⟨⟨tq1,tq2,tq3,tq4,tq5,tq6,tq7⟩,Aq2,H⟩:=H
  dsimp only at H
  simp only[Option.some.injEq,Prod.mk.injEq] at H
  obtain⟨rfl,rfl,rfl,rfl,rfl,rfl,rfl⟩:=H
  go_wp2_with (first|(refine g_C 73 ?_;refine gL (some 20) Tryz.func73 #[.agg #[.slice A0_0 l0_0.length c0_0,.slice A0_1 l0_1.length c0_1,.int .i64 a0_2,.int .i64 a0_3,.int .i64 a0_4,.slice A0_5 l0_5.length c0_5],.agg #[.int .i64 a1,.int .i64 a2,.slice A3 l3.length c3,.int .i64 0,.int .i64 0,.int .i64 0]] ?_;(with_reducible refine(impl_Disk_with.calls ?side1 ?side2 ?side3 ?side4 ?side5 ?side6 ?side7 ?side8 Aq2.out).mono ?_);(case side1=>exact Zq34_0);(case side2=>exact HCq1.out);(case side3=>exact Zq34_1);(case side4=>exact HCq2.out);(case side5=>exact Zq34_2);(case side6=>exact HCq3.out);(case side7=>repeat (first|exact(Kd.C_below HRq4.out TB)|(with_reducible refine Kd.C_alloc ?_ _)|(with_reducible refine Kd.C_drewN ?_ _)|(with_reducible refine Kd.C_drew ?_)));(case side8=>exact HCq4.out);rintro e wq3 ⟨vq1,vq2,vq3,rfl,hoq1,hoq2,hoq3,hb⟩;refine⟨_,rfl,?_⟩;have HOq1:=aM (Kd.R_lower hoq1 (below_size TB));have HOq2:=aM (Kd.R_lower hoq2 (below_size TB));have HOq3:=aM (Kd.S_lower hoq3 (below_size TB));replace BKq1:=mB BKq1 hb;replace BKq2:=mB BKq2 hb;replace HB:=bS HB hb;clear hoq1 hoq2 hoq3 hb;obtain⟨Aoq1,coq1,eoq1⟩:=Kd.R_slice HOq1.out;subst eoq1;obtain⟨hczq7,hczq8,hczq9,hczq10,hczq11,hczq12⟩:=cz6 BKq2.out;obtain⟨hfzq7,hfzq8,hfzq9,hfzq10,hfzq11,hfzq12⟩:=fz6 BKq2.out;obtain⟨Aoq2,coq2,eoq2⟩:=Kd.R_slice HOq2.out;subst eoq2;obtain⟨Aoq3,coq3,eoq3⟩:=Kd.S_slice HOq3.out;subst eoq3))
  exact Yq34_0
 ·replace cq1:=b_F cq1
  subst cq1
  replace H:=ifF H
  replace H:=bE H
  obtain⟨⟨tq1,tq2,tq3,tq4,tq5,tq6⟩,Aq2,H⟩:=H
  dsimp only at H
  simp only[Option.some.injEq,Prod.mk.injEq] at H
  obtain⟨rfl,rfl,rfl,rfl,rfl,rfl,rfl⟩:=H
  go_wp2_with (first|(refine g_C 40 ?_;refine gL (some 14) Tryz.func40 #[.agg #[.slice A0_0 l0_0.length c0_0,.slice A0_1 l0_1.length c0_1,.int .i64 a0_2,.int .i64 a0_3,.int .i64 a0_4,.slice A0_5 l0_5.length c0_5]] ?_;(with_reducible refine(impl_copyDisk.calls ?side1 ?side2 ?side3 ?side4 ?side5 ?side6 Aq2.out).mono ?_);(case side1=>exact Zq34_0);(case side2=>exact HCq1.out);(case side3=>exact Zq34_1);(case side4=>exact HCq2.out);(case side5=>exact Zq34_2);(case side6=>exact HCq3.out);rintro e wq3 ⟨vq1,vq2,vq3,rfl,hoq1,hoq2,hoq3,hb⟩;refine⟨_,rfl,?_⟩;have HOq1:=aM (Kd.R_lower hoq1 (below_size TB));have HOq2:=aM (Kd.R_lower hoq2 (below_size TB));have HOq3:=aM (Kd.S_lower hoq3 (below_size TB));replace BKq1:=mB BKq1 hb;replace BKq2:=mB BKq2 hb;replace HB:=bS HB hb;clear hoq1 hoq2 hoq3 hb;obtain⟨Aoq1,coq1,eoq1⟩:=Kd.R_slice HOq1.out;subst eoq1;obtain⟨hczq7,hczq8,hczq9,hczq10,hczq11,hczq12⟩:=cz6 BKq2.out;obtain⟨hfzq7,hfzq8,hfzq9,hfzq10,hfzq11,hfzq12⟩:=fz6 BKq2.out;obtain⟨Aoq2,coq2,eoq2⟩:=Kd.R_slice HOq2.out;subst eoq2;obtain⟨Aoq3,coq3,eoq3⟩:=Kd.S_slice HOq3.out;subst eoq3))
  exact Yq34_0
end Go.Proofs.YtjgmkkogmfogbaaGreat.Q
