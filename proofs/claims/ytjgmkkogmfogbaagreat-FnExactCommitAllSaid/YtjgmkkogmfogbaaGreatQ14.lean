/- Functions of the program as plain Lean functions, and that a call of each comes to what its function tells. -/
import Derived.Test.YtjgmkkogmfogbaaGreatQ5
import Derived.Test.YtjgmkkogmfogbaaGreatQ1
import Derived.Test.YtjgmkkogmfogbaaGreatQ21
set_option maxHeartbeats 40000000
set_option maxRecDepth 100000
namespace Go.Proofs.YtjgmkkogmfogbaaGreat.Q
open Go.RowKit Go.Proofs.YtjgmkkogmfogbaaGreatW.PrintWords Go.Proofs.YtjgmkkogmfogbaaGreatW.PrintLast Go.Proofs.YtjgmkkogmfogbaaGreatW.PrintMore
attribute [local go_sem] min2_int min_two
set_option linter.unusedVariables false
set_option linter.unusedSimpArgs false
attribute [local go_sem high] eqA36
def spec_l9Record.f (a:Int)(b:Int)(c:Int):Option (Bool):=(spec_l1In.f a 0 1000000).bind fun d=>(if d=true then ((spec_l1In.f b 0 1).bind fun e=>(if e=true then ((spec_l1In.f c 0 240).bind fun f=>(some f)) else (some false))) else (some false))
theorem spec_l9Record.calls {a0_0:Int}{a0_1:Int}{a0_2:Int}{r:Bool}{w:World}(h:spec_l9Record.f a0_0 a0_1 a0_2=some r):
    Calls Tryz.prog 85 #[.agg #[.int .i64 a0_0,.int .i64 a0_1,.int .i64 a0_2]] w fun e w'=>e=.returned (.bool r)∧Below w.heap.size w w':=by
  have hu36:=Tryz.underlying36
  have HB:=aM (Below.refl w.heap.size w)
  have H:=h
  clear h
  unfold spec_l9Record.f at H
  replace H:=bE H
  obtain⟨t201,A2,H⟩:=H
  go_enter Tryz.func85,Tryz.ntmps85
  go_wp2_with (first|(refine g_D 1 ?_;refine gBx 1 #[.int .i64 a0_0,.int .i64 a0_1,.int .i64 a0_2] 36 ?_;intro gb200 hg w4 hbox hb;have BK200:=aM (hbox);have GW200:=gW HB hg;have GE200:=gW HB hg;replace HB:=bS HB hb;clear hb hbox hg;obtain⟨hcz5_0,hcz5_1,hcz5_2⟩:=cz3 BK200.out;obtain⟨hfz5_0,hfz5_1,hfz5_2⟩:=fz3 BK200.out)|(refine g_C 88 ?_;refine g_D 5 ?_;generalize hG_:wpList _ _ _ _ _ _=G_))
  subst hG_
  by_cases c6:t201=true
  · subst c6
    replace H:=ifT H
    replace H:=bE H
    obtain⟨t202,A7,H⟩:=H
    by_cases c8:t202=true
    · subst c8
      replace H:=ifT H
      replace H:=bE H
      obtain⟨t203,A9,H⟩:=H
      obtain rfl:=o_I H
      go_wp2_with (first|(refine g_C 88 ?_;refine gL (some 5) Tryz.func88 #[.int .i64 a0_0,.int .i64 0,.int .i64 1000000] ?_;(with_reducible refine(spec_l1In.calls A2.out).mono ?_);rintro e w' ⟨rfl,⟨nd,rfl⟩⟩;refine⟨_,rfl,?_⟩;obtain⟨hcz10_0,hcz10_1,hcz10_2⟩:=cz3 BK200.out;obtain⟨hfz10_0,hfz10_1,hfz10_2⟩:=fz3 BK200.out)|(go_at_call 88;(with_reducible refine(spec_l1In.calls A7.out).mono ?_);rintro e w' ⟨rfl,⟨nd,rfl⟩⟩)|(go_at_call 88;(with_reducible refine(spec_l1In.calls A9.out).mono ?_);rintro e w' ⟨rfl,⟨nd,rfl⟩⟩))
      go_ret
      exact⟨TE,TB⟩
    · replace c8:=b_F c8
      subst c8
      replace H:=ifF H
      obtain rfl:=o_I H
      go_wp2_with (first|(refine g_C 88 ?_;refine gL (some 5) Tryz.func88 #[.int .i64 a0_0,.int .i64 0,.int .i64 1000000] ?_;(with_reducible refine(spec_l1In.calls A2.out).mono ?_);rintro e w' ⟨rfl,⟨nd,rfl⟩⟩;refine⟨_,rfl,?_⟩;obtain⟨hcz11_0,hcz11_1,hcz11_2⟩:=cz3 BK200.out;obtain⟨hfz11_0,hfz11_1,hfz11_2⟩:=fz3 BK200.out)|(go_at_call 88;(with_reducible refine(spec_l1In.calls A7.out).mono ?_);rintro e w' ⟨rfl,⟨nd,rfl⟩⟩))
      go_ret
      exact⟨TE,TB⟩
  · replace c6:=b_F c6
    subst c6
    replace H:=ifF H
    obtain rfl:=o_I H
    go_wp2_with (first|(refine g_C 88 ?_;refine gL (some 5) Tryz.func88 #[.int .i64 a0_0,.int .i64 0,.int .i64 1000000] ?_;(with_reducible refine(spec_l1In.calls A2.out).mono ?_);rintro e w' ⟨rfl,⟨nd,rfl⟩⟩;refine⟨_,rfl,?_⟩))
    go_ret
    exact⟨TE,TB⟩
def spec_l9Slot.f (a:Int)(o:Nat):Option Unit:=if (a=1∧o=1)∨(¬a=1∧o=0) then some () else none
theorem spec_l9Slot.o1.calls (A0_0:Option Addr)(c0_0:Nat)(l0_0:List Int)(A0_1:Option Addr)(c0_1:Nat)(l0_1:List Int)(a0_2:Int)(a0_3:Int)(a0_4:Int)(A0_5:Option Addr)(c0_5:Nat)(l0_5:List S91)(a1:Int)(w:World)(hr0_0:Kd.C (Kd.int .u8) w A0_0 l0_0.length l0_0)(hc0_0:l0_0.length≤c0_0)(hr0_1:Kd.C (Kd.int .u8) w A0_1 l0_1.length l0_1)(hc0_1:l0_1.length≤c0_1)(hr0_5:Kd.C k91 w A0_5 l0_5.length l0_5)(hc0_5:l0_5.length≤c0_5)(h:spec_l9Slot.f a1 1=some ()):
    Calls Tryz.prog 86 #[.agg #[.slice A0_0 l0_0.length c0_0,.slice A0_1 l0_1.length c0_1,.int .i64 a0_2,.int .i64 a0_3,.int .i64 a0_4,.slice A0_5 l0_5.length c0_5],.int .i64 a1] w fun e w'=>e=.returned (.slice A0_1 l0_1.length c0_1)∧Below w.heap.size w w':=by
  have hu33:=Tryz.underlying39
  have HB:=aM (Below.refl w.heap.size w)
  have h:=(ifN h).1
  have c3:a1=1:=by omega
  have c3b0:(a1==1)=true:=beq_iff_eq.mpr c3
  have c3b1:(a1 != 1)=false:=bne_eq_false_iff_eq.mpr c3
  clear c3 h
  go_enter Tryz.func86,Tryz.ntmps86
  go_wp2_with (first|(refine g_D 2 ?_;refine gBx 2 #[.slice A0_0 l0_0.length c0_0,.slice A0_1 l0_1.length c0_1,.int .i64 a0_2,.int .i64 a0_3,.int .i64 a0_4,.slice A0_5 l0_5.length c0_5] 39 ?_;intro gb291 hg w4 hbox hb;have BK291:=aM (hbox);replace HB:=bS HB hb;clear hb hbox hg;obtain⟨hcz5_0,hcz5_1,hcz5_2,hcz5_3,hcz5_4,hcz5_5⟩:=cz6 BK291.out;obtain⟨hfz5_0,hfz5_1,hfz5_2,hfz5_3,hfz5_4,hfz5_5⟩:=fz6 BK291.out))
  go_ret
  exact⟨rfl,TB⟩
theorem spec_l9Slot.o0.calls (A0_0:Option Addr)(c0_0:Nat)(l0_0:List Int)(A0_1:Option Addr)(c0_1:Nat)(l0_1:List Int)(a0_2:Int)(a0_3:Int)(a0_4:Int)(A0_5:Option Addr)(c0_5:Nat)(l0_5:List S91)(a1:Int)(w:World)(hr0_0:Kd.C (Kd.int .u8) w A0_0 l0_0.length l0_0)(hc0_0:l0_0.length≤c0_0)(hr0_1:Kd.C (Kd.int .u8) w A0_1 l0_1.length l0_1)(hc0_1:l0_1.length≤c0_1)(hr0_5:Kd.C k91 w A0_5 l0_5.length l0_5)(hc0_5:l0_5.length≤c0_5)(h:spec_l9Slot.f a1 0=some ()):
    Calls Tryz.prog 86 #[.agg #[.slice A0_0 l0_0.length c0_0,.slice A0_1 l0_1.length c0_1,.int .i64 a0_2,.int .i64 a0_3,.int .i64 a0_4,.slice A0_5 l0_5.length c0_5],.int .i64 a1] w fun e w'=>e=.returned (.slice A0_0 l0_0.length c0_0)∧Below w.heap.size w w':=by
  have hu33:=Tryz.underlying39
  have HB:=aM (Below.refl w.heap.size w)
  have h:=(ifN h).1
  have c3:¬a1=1:=by omega
  have c3b0:(a1==1)=false:=beq_eq_false_iff_ne.mpr c3
  have c3b1:(a1 != 1)=true:=bne_iff_ne.mpr c3
  clear c3 h
  go_enter Tryz.func86,Tryz.ntmps86
  go_wp2_with (first|(refine g_D 2 ?_;refine gBx 2 #[.slice A0_0 l0_0.length c0_0,.slice A0_1 l0_1.length c0_1,.int .i64 a0_2,.int .i64 a0_3,.int .i64 a0_4,.slice A0_5 l0_5.length c0_5] 39 ?_;intro gb291 hg w4 hbox hb;have BK291:=aM (hbox);replace HB:=bS HB hb;clear hb hbox hg;obtain⟨hcz5_0,hcz5_1,hcz5_2,hcz5_3,hcz5_4,hcz5_5⟩:=cz6 BK291.out;obtain⟨hfz5_0,hfz5_1,hfz5_2,hfz5_3,hfz5_4,hfz5_5⟩:=fz6 BK291.out))
  go_ret
  exact⟨rfl,TB⟩
def spec_l9Put.f (b:Int)(a:Int)(c:List Int)(d:Int)(e:Int)(f:Int):Option (Bool):=if b=2 then (if a=0 then (if (c.length:Int)=0 then ((spec_l9Record.f d e f).bind fun g=>(some g)) else (some false)) else (some false)) else ((spec_l1In.f b 0 1).bind fun h=>(if h=true then ((spec_l1In.f a 0 240).bind fun i=>(if i=true then (if (c.length:Int)≤(wrap64 (240 - a)) then (some (d==0&&(e==0&&(f==0)))) else (some false)) else (some false))) else (some false)))
theorem Yq10_0 {p:Prop}(h:p:=by
 obtain rfl:=o_I H;go_enter Tryz.func87,Tryz.ntmps87;go_wp2_with (first|(refine g_D 1 ?_;(try (refine gate_guard (by rfl) ?_;dsimp only));refine gBx 1 #[.int .i64 aa,.int .i64 ac,.slice ah ab.length ag,.int .i64 af,.int .i64 ae,.int .i64 ad] 91 ?_;intro ai hg wq1 hbox hb;have BKq1:=aM (hbox);have GWq1:=gW HB hg;have GEq1:=gW HB hg;replace HB:=bS HB hb;clear hb hbox hg)|(refine g_D 3 ?_;(try (refine gate_guard (by rfl) ?_;dsimp only));refine gBx 3 #[.int .i64 0,.int .i64 0,.int .i64 0] 36 ?_;intro gbq2 hg wq2 hbox hb;have BKq2:=aM (hbox);have GWq2:=gW HB hg;have GEq2:=gW HB hg;obtain⟨NBq1,NBq2⟩:=nB BKq1 hg;replace BKq1:=mB BKq1 hb;replace HB:=bS HB hb;clear hb hbox hg;obtain⟨hnbq1,hncq1⟩:=oB NBq2;obtain⟨hczq1,hczq2,hczq3⟩:=cz3 BKq2.out;obtain⟨hfzq1,hfzq2,hfzq3⟩:=fz3 BKq2.out;obtain⟨hczq4,hczq5,hczq6,hczq7,hczq8,hczq9⟩:=cz6 BKq1.out;obtain⟨hfzq4,hfzq5,hfzq6,hfzq7,hfzq8,hfzq9⟩:=fz6 BKq1.out))
 go_ret
 exact⟨TE,TB⟩):p:=h
theorem spec_l9Put.calls {aa:Int}{ac:Int}{ah:Option Addr}{ag:Nat}{ab:List Int}{af:Int}{ae:Int}{ad:Int}{r:Bool}{w:World}(aj:Kd.C (Kd.int .u8) w ah ab.length ab)(ak:ab.length≤ag)(h:spec_l9Put.f aa ac ab af ae ad=some r):
  Calls Tryz.prog 87 #[.agg #[.int .i64 aa,.int .i64 ac,.slice ah ab.length ag,.int .i64 af,.int .i64 ae,.int .i64 ad]] w fun e w'=>e=.returned (.bool r)∧Below w.heap.size w w':=by
 have huq1:=Tryz.underlying91;have hu36:=Tryz.underlying36;have HRq1:=aM aj;have HCq1:=aM ak;clear aj ak;have HB:=aM (Below.refl w.heap.size w);have H:=h;clear h;unfold spec_l9Put.f at H
 by_cases cq1:aa=2
 ·rw[if_pos cq1] at H;have cq2:(aa==2)=true:=beq_iff_eq.mpr cq1;have cq3:(aa != 2)=false:=bne_eq_false_iff_eq.mpr cq1;clear cq1
  by_cases c3:ac=0
  ·rw[if_pos c3] at H;have c3b0:(ac==0)=true:=beq_iff_eq.mpr c3;have c3b1:(ac != 0)=false:=bne_eq_false_iff_eq.mpr c3;clear c3
   by_cases cq4:(ab.length:Int)=0
   ·rw[if_pos cq4] at H;have cq5:((ab.length:Int)==0)=true:=beq_iff_eq.mpr cq4;have cq6:((ab.length:Int) != 0)=false:=bne_eq_false_iff_eq.mpr cq4;clear cq4;replace H:=bE H;obtain⟨t206,Aq1,H⟩:=H;obtain rfl:=o_I H;go_enter Tryz.func87,Tryz.ntmps87;go_wp2_with (first|(refine g_D 1 ?_;(try (refine gate_guard (by rfl) ?_;dsimp only));refine gBx 1 #[.int .i64 aa,.int .i64 ac,.slice ah ab.length ag,.int .i64 af,.int .i64 ae,.int .i64 ad] 91 ?_;intro ai hg wq1 hbox hb;have BKq1:=aM (hbox);have GWq1:=gW HB hg;have GEq1:=gW HB hg;replace HB:=bS HB hb;clear hb hbox hg)|(refine g_D 3 ?_;(try (refine gate_guard (by rfl) ?_;dsimp only));refine gBx 3 #[.int .i64 0,.int .i64 0,.int .i64 0] 36 ?_;intro gbq2 hg wq2 hbox hb;have BKq2:=aM (hbox);have GWq2:=gW HB hg;have GEq2:=gW HB hg;obtain⟨NBq1,NBq2⟩:=nB BKq1 hg;replace BKq1:=mB BKq1 hb;replace HB:=bS HB hb;clear hb hbox hg;obtain⟨hnbq1,hncq1⟩:=oB NBq2;obtain⟨hczq1,hczq2,hczq3⟩:=cz3 BKq2.out;obtain⟨hfzq1,hfzq2,hfzq3⟩:=fz3 BKq2.out;obtain⟨hcz10_0,hcz10_1,hcz10_2,hczq4,hczq5,hczq6⟩:=cz6 BKq1.out;obtain⟨hfz10_0,hfz10_1,hfz10_2,hfzq4,hfzq5,hfzq6⟩:=fz6 BKq1.out)|(go_at_call 85;(with_reducible refine(spec_l9Record.calls Aq1.out).mono ?_);rintro e wq3 ⟨rfl,hb⟩;replace BKq1:=mB BKq1 hb;replace BKq2:=aM (blk_below (g:=gbq2) (o:=.cells #[.int .i64 0,.int .i64 0,.int .i64 0] 36 (0,0)) (blk_put (blk_put (blk_put (cs:=#[.int .i64 0,.int .i64 0,.int .i64 0]) (TZ BKq2) 0 _ rfl) 1 _ rfl) 2 _ rfl) hb);replace HB:=bS HB hb;clear hb))
    go_ret
    exact⟨TE,TB⟩
   ·rw[if_neg cq4] at H;have cq5:((ab.length:Int)==0)=false:=beq_eq_false_iff_ne.mpr cq4;have cq6:((ab.length:Int) != 0)=true:=bne_iff_ne.mpr cq4;have cq7:¬(ab=[]):=fun h_=>cq4 (by rw[h_];rfl)
    exact Yq10_0
  ·rw[if_neg c3] at H;have c3b0:(ac==0)=false:=beq_eq_false_iff_ne.mpr c3;have c3b1:(ac != 0)=true:=bne_iff_ne.mpr c3;exact Yq10_0
 ·rw[if_neg cq1] at H;have cq2:(aa==2)=false:=beq_eq_false_iff_ne.mpr cq1;have cq3:(aa != 2)=true:=bne_iff_ne.mpr cq1;replace H:=bE H;obtain⟨t207,Aq1,H⟩:=H;go_enter Tryz.func87,Tryz.ntmps87;go_wp2_with (first|(refine g_D 1 ?_;(try (refine gate_guard (by rfl) ?_;dsimp only));refine gBx 1 #[.int .i64 aa,.int .i64 ac,.slice ah ab.length ag,.int .i64 af,.int .i64 ae,.int .i64 ad] 91 ?_;intro ai hg wq1 hbox hb;have BKq1:=aM (hbox);have GWq1:=gW HB hg;have GEq1:=gW HB hg;replace HB:=bS HB hb;clear hb hbox hg)|(refine g_D 3 ?_;(try (refine gate_guard (by rfl) ?_;dsimp only));refine gBx 3 #[.int .i64 0,.int .i64 0,.int .i64 0] 36 ?_;intro gbq2 hg wq2 hbox hb;have BKq2:=aM (hbox);have GWq2:=gW HB hg;have GEq2:=gW HB hg;obtain⟨NBq1,NBq2⟩:=nB BKq1 hg;replace BKq1:=mB BKq1 hb;replace HB:=bS HB hb;clear hb hbox hg;obtain⟨hnbq1,hncq1⟩:=oB NBq2;obtain⟨hczq1,hczq2,hczq3⟩:=cz3 BKq2.out;obtain⟨hfzq1,hfzq2,hfzq3⟩:=fz3 BKq2.out;obtain⟨hczq4,hczq5,hczq6,hczq7,hczq8,hczq9⟩:=cz6 BKq1.out;obtain⟨hfzq4,hfzq5,hfzq6,hfzq7,hfzq8,hfzq9⟩:=fz6 BKq1.out)|(refine g_C 88 ?_;refine g_D 24 ?_;generalize hG_:wpList _ _ _ _ _ _=G_))
  subst hG_
  by_cases cq4:t207=true
  ·subst cq4;replace H:=ifT H;replace H:=bE H;obtain⟨t208,Aq2,H⟩:=H
   by_cases cq5:t208=true
   ·subst cq5;replace H:=ifT H
    by_cases cq6:(ab.length:Int)≤(wrap64 (240 - ac))
    ·rw[if_pos cq6] at H;have cq7:decide ((ab.length:Int)≤(wrap64 (240 - ac)))=true:=decide_eq_true cq6;clear cq6;obtain rfl:=o_I H;go_wp2_with (first|(refine g_C 88 ?_;refine gL (some 24) Tryz.func88 #[.int .i64 aa,.int .i64 0,.int .i64 1] ?_;(with_reducible refine(spec_l1In.calls Aq1.out).mono ?_);rintro e w' ⟨rfl,⟨nd,rfl⟩⟩;refine⟨_,rfl,?_⟩;obtain⟨hnbq2,hncq2⟩:=oB NBq1;obtain⟨hczq10,hczq11,hczq12,hczq13,hczq14,hczq15⟩:=cz6 BKq1.out;obtain⟨hfzq10,hfzq11,hfzq12,hfzq13,hfzq14,hfzq15⟩:=fz6 BKq1.out)|(go_at_call 88;(with_reducible refine(spec_l1In.calls Aq2.out).mono ?_);rintro e w' ⟨rfl,⟨nd,rfl⟩⟩;obtain⟨hczq16,hczq17,hczq18⟩:=cz3 BKq2.out;obtain⟨hfzq16,hfzq17,hfzq18⟩:=fz3 BKq2.out))
     go_ret
     exact⟨TE,TB⟩
    ·rw[if_neg cq6] at H;have cq7:decide ((ab.length:Int)≤(wrap64 (240 - ac)))=false:=decide_eq_false cq6;clear cq6;obtain rfl:=o_I H;go_wp2_with (first|(refine g_C 88 ?_;refine gL (some 24) Tryz.func88 #[.int .i64 aa,.int .i64 0,.int .i64 1] ?_;(with_reducible refine(spec_l1In.calls Aq1.out).mono ?_);rintro e w' ⟨rfl,⟨nd,rfl⟩⟩;refine⟨_,rfl,?_⟩;obtain⟨hnbq2,hncq2⟩:=oB NBq1;obtain⟨hczq10,hczq11,hczq12,hczq13,hczq14,hczq15⟩:=cz6 BKq1.out;obtain⟨hfzq10,hfzq11,hfzq12,hfzq13,hfzq14,hfzq15⟩:=fz6 BKq1.out)|(go_at_call 88;(with_reducible refine(spec_l1In.calls Aq2.out).mono ?_);rintro e w' ⟨rfl,⟨nd,rfl⟩⟩))
     go_ret
     exact⟨TE,TB⟩
   ·replace cq5:=b_F cq5;subst cq5;replace H:=ifF H;obtain rfl:=o_I H;go_wp2_with (first|(refine g_C 88 ?_;refine gL (some 24) Tryz.func88 #[.int .i64 aa,.int .i64 0,.int .i64 1] ?_;(with_reducible refine(spec_l1In.calls Aq1.out).mono ?_);rintro e w' ⟨rfl,⟨nd,rfl⟩⟩;refine⟨_,rfl,?_⟩;obtain⟨hnbq2,hncq2⟩:=oB NBq1;obtain⟨hczq10,hczq11,hczq12,hczq13,hczq14,hczq15⟩:=cz6 BKq1.out;obtain⟨hfzq10,hfzq11,hfzq12,hfzq13,hfzq14,hfzq15⟩:=fz6 BKq1.out)|(go_at_call 88;(with_reducible refine(spec_l1In.calls Aq2.out).mono ?_);rintro e w' ⟨rfl,⟨nd,rfl⟩⟩))
    go_ret
    exact⟨TE,TB⟩
  ·replace cq4:=b_F cq4;subst cq4;replace H:=ifF H;obtain rfl:=o_I H;go_wp2_with (first|(refine g_C 88 ?_;refine gL (some 24) Tryz.func88 #[.int .i64 aa,.int .i64 0,.int .i64 1] ?_;(with_reducible refine(spec_l1In.calls Aq1.out).mono ?_);rintro e w' ⟨rfl,⟨nd,rfl⟩⟩;refine⟨_,rfl,?_⟩))
   go_ret
   exact⟨TE,TB⟩
attribute [local go_sem] min2_int min_two
mutual
def spec_DiskOk.j0 :Nat→Bool→List Int→List Int→Int→Int→Int→List (S91)→Option (Bool)
  |0,_,_,_,_,_,_,_=>none
  |k+1,g,a,b,c,d,e,f=>if g=true then (some false) else (spec_DiskOk.l0 k 0 a b c d e f)
def spec_DiskOk.l0 :Nat→Int→List Int→List Int→Int→Int→Int→List (S91)→Option (Bool)
  |0,_,_,_,_,_,_,_=>none
  |k+1,b,c,d,e,f,g,a=>if b<(a.length:Int) then (if 0≤b then ((spec_l9Put.f ((rd_T91 a b).f0) ((rd_T91 a b).f1) ((rd_T91 a b).f2) ((rd_T91 a b).f3.f0) ((rd_T91 a b).f3.f1) ((rd_T91 a b).f3.f2)).bind fun h=>(if h=true then (spec_DiskOk.l0 k (wrap64 (b+1)) c d e f g a) else (some false))) else (none)) else (some true)
end
def spec_DiskOk.f (k:Nat)(c:List Int)(d:List Int)(f:Int)(a:Int)(b:Int)(e:List (S91)):Option (Bool):=if (c.length:Int)>240 then (spec_DiskOk.j0 k true c d f a b e) else (if (d.length:Int)>240 then (spec_DiskOk.j0 k true c d f a b e) else ((spec_l9Record.f f a b).bind fun g=>(if g=true then (if a=1 then ((spec_l9Slot.f a 1).bind fun _=>(if b>(d.length:Int) then (spec_DiskOk.j0 k true c d f a b e) else (spec_DiskOk.j0 k (decide ((e.length:Int)>200)) c d f a b e))) else ((spec_l9Slot.f a 0).bind fun _=>(if b>(c.length:Int) then (spec_DiskOk.j0 k true c d f a b e) else (spec_DiskOk.j0 k (decide ((e.length:Int)>200)) c d f a b e)))) else (spec_DiskOk.j0 k true c d f a b e))))
theorem spec_DiskOk.mono_l :∀k,(∀a b c d e f g,LeO (spec_DiskOk.j0 k a b c d e f g) (spec_DiskOk.j0 (k+1) a b c d e f g))∧(∀a b c d e f g,LeO (spec_DiskOk.l0 k a b c d e f g) (spec_DiskOk.l0 (k+1) a b c d e f g))
  |0=>⟨fun _ _ _ _ _ _ _ r h=>by simp [spec_DiskOk.j0] at h,fun _ _ _ _ _ _ _ r h=>by simp [spec_DiskOk.l0] at h⟩
  | k+1=>by
    obtain⟨ih0,ih1⟩:=spec_DiskOk.mono_l k
    refine⟨?_,?_⟩
    · intro y0 y1 y2 y3 y4 y5 y6
      unfold spec_DiskOk.j0
      exact LM
    · intro y0 y1 y2 y3 y4 y5 y6
      unfold spec_DiskOk.l0
      exact LM
theorem spec_DiskOk.mono :∀a b c d e f k,LeO (spec_DiskOk.f k a b c d e f) (spec_DiskOk.f (k+1) a b c d e f):=by
  intro a0 a1 a2 a3 a4 a5 k;obtain⟨ih0,ih1⟩:=spec_DiskOk.mono_l k;unfold spec_DiskOk.f;exact LM
def spec_DiskOk.T1 :Bool×List (List Nat×List Nat):=(true,[([],[]),([0],[0]),([1],[1]),([2],[2]),([3],[3]),([4],[4]),([5,4],[4,5]),([6,4],[4,6]),([7,4],[4,7]),([4,8],[4,8]),([9,4],[9]),([10],[10]),([11,10],[10,11]),([12,10,10],[10,12]),([13,10],[10,13]),([10,14],[10,14]),([15,13],[15]),([16],[16]),([17,16],[16,17]),([18,16],[16,18]),([16],[16]),([16],[16]),([21,16],[16,21]),([22,16],[16,22]),([20,23,16,16],[16,20,23]),([24,16],[16,24]),([19,25,16],[16,19,25]),([16,26],[16,26]),([27,24],[27]),([28],[28]),([29,28],[28,29]),([30,28],[28,30]),([31,28],[28,31]),([28,32],[28,32])])
def spec_DiskOk.B1 :List Nat:=[0,1,3,7,15,31,63,127,255,511,1023,2047,4095,8191,16383,32767,65535,131071,262143,524287,131071,131071,2228223,6422527,15859711,32636927,67108863,134217727,268435455,536870911,1073741823,2147483647,4294967295,8589934591]
theorem spec_DiskOk.tab1 :rtab .any (opsOf Tryz.f53 1)=spec_DiskOk.T1:=by kernel_rfl
theorem spec_DiskOk.bits1 :waitsOk spec_DiskOk.T1.2 spec_DiskOk.B1=true:=by kernel_rfl
theorem Yq11_3 {p:Prop}(h:p:=by
 rintro e wq4 ⟨rfl,hb⟩;refine⟨_,rfl,?_⟩;replace aa:=mB aa hb;replace HB:=bS HB hb;(try clear hb);refine hK.out _ _ (cz6 aa.out) (fun hHeld=>?_);clear hK K;refine nR ?_;refine ppq 25 29 ?_;refine ppq 26 30 ?_;exact Yq11_0):p:=h
theorem Yq11_2 {p:Prop}(h:p:=by
 refine ppq 15 19 ?_;refine ppq 16 20 ?_;refine pxq 17 21 ?_;refine pxq 18 22 ?_;refine pxq 19 23 ?_;refine pxq 20 24 ?_;refine pxq 21 25 ?_;refine pxq 22 26 ?_;refine pxq 23 27 ?_;refine pxq 24 28 ?_;refine pxq 25 29 ?_;refine pxq 26 30 ?_;exact Yq11_0):p:=h
theorem Yq11_1 {p:Prop}(h:p:=by
 rintro e wq4 ⟨rfl,hb⟩;refine⟨_,rfl,?_⟩;replace aa:=mB aa hb;replace HB:=bS HB hb;(try clear hb);refine hK.out _ _ (cz6 aa.out) (fun hHeld=>?_);clear hK K;refine nR ?_;refine ppq 25 29 ?_;refine ppq 26 30 ?_;refine ppq 27 31 ?_;refine ppq 28 32 ?_;refine ppq 29 33 ?_;refine ptq 30 34 ?_;refine ppq 31 35 ?_;refine ppq 32 36 ?_;refine ppq 33 37 ?_;refine done_ (done_of HT_.out (by kernel_rfl)) ?_;try go_wp2
 go_meet
 case rel=>exact⟨_,(decide ((ac.length:Int)>200)),TF,H',⟨by first|omega|exact Nat.le_refl _⟩,⟨TK⟩,⟨TB⟩⟩):p:=h
theorem Yq11_0 {p:Prop}(h:p:=by
 refine ppq 27 31 ?_;refine ppq 28 32 ?_;refine pxq 29 33 ?_;refine pxq 30 34 ?_;refine pxq 31 35 ?_;refine pxq 32 36 ?_;refine ppq 33 37 ?_;refine done_ (done_of HT_.out (by kernel_rfl)) ?_;try go_wp2
 go_meet
 case rel=>exact⟨_,(true),TF,H',⟨by first|omega|exact Nat.le_refl _⟩,⟨TK⟩,⟨TB⟩⟩):p:=h
theorem spec_DiskOk.calls {k:Nat}{an:Option Addr}{am:Nat}{af:List Int}{al:Option Addr}{aj:Nat}{ae:List Int}{ag:Int}{ab:Int}{ad:Int}{ai:Option Addr}{ak:Nat}{ac:List (S91)}{r:Bool}{w:World}(aF:Kd.C (Kd.int .u8) w an af.length af)(aJ:af.length≤am)(aI:Kd.C (Kd.int .u8) w al ae.length ae)(aH:ae.length≤aj)(aG:Kd.C k91 w ai ac.length ac)(aK:ac.length≤ak)(h:spec_DiskOk.f k af ae ag ab ad ac=some r):
  Calls Tryz.prog 53 #[.agg #[.slice an af.length am,.slice al ae.length aj,.int .i64 ag,.int .i64 ab,.int .i64 ad,.slice ai ac.length ak]] w fun e w'=>e=.returned (.bool r)∧Below w.heap.size w w':=by
 have huq1:=Tryz.underlying39;have huq2:=Tryz.underlying36;have huq3:=Tryz.underlying91;have ax:=aM aF;have aw:=aM aJ;clear aF aJ;have ar:=aM aI;have av:=aM aH;clear aI aH;have aq:=aM aG;have au:=aM aK;clear aG aK;have HB:=aM (Below.refl w.heap.size w);have H:=h;clear h;unfold spec_DiskOk.f at H;have ay:=aM H;clear H;go_enter Tryz.func53,Tryz.ntmps53;go_upto_region 1 with (first|(refine g_D 1 ?_;(try (refine gate_guard (by rfl) ?_;dsimp only));refine gBx 1 #[.slice an af.length am,.slice al ae.length aj,.int .i64 ag,.int .i64 ab,.int .i64 ad,.slice ai ac.length ak] 39 ?_;intro gbq1 hg wq1 hbox hb;have aa:=aM (hbox);have GWq1:=gW HB hg;have GEq1:=gW HB hg;replace HB:=bS HB hb;clear hb hbox hg))
 (try simp only[NP])
 go_cut [37] (fun vq1 wc=>∃(kq:Nat) (xq1:Bool),vq1=.bool xq1∧Aside0 (spec_DiskOk.j0 kq xq1 af ae ag ab ad ac=some r)∧Aside0 (kq≤k)∧Aside0 (wc.heap[gbq1]?=some (.cells #[(.slice an af.length am),(.slice al ae.length aj),.int .i64 ag,.int .i64 ab,.int .i64 ad,(.slice ai ac.length ak)] 39 (0,0)))∧Aside0 (Below w.heap.size w wc))
 case first=>
  have H:=ay.out;clear ay
  by_cases cq1:(af.length:Int)>240
  ·rw[if_pos cq1] at H;have cq2:decide (240<(af.length:Int))=true:=decide_eq_true cq1;have cq3:decide (240<af.length)=true:=decide_eq_true (by omega);clear cq1;(first|rw[cq2]|(simp only[i64_w,i32_w];rw[cq2])|skip);have H':=aM H;clear H;try go_wp2
   replace aa:=bD aa;replace HB:=aM (below_drew1 HB.out);refine st_ (n:=34) (ds:=[]) (Array.replicate 34 false) (hK6 aa.out) (by kernel_rfl) rfl rfl (fun hHeld=>?_);refine with_tabW spec_DiskOk.tab1 spec_DiskOk.bits1 (fun HT_ HW_=>?_);generalize wq1.drew=wq2 at aa HB hHeld ⊢;refine ppq 0 4 ?_;refine ptq 1 5 ?_;refine ppq 2 6 ?_;refine ppq 3 7 ?_;refine ppq 4 8 ?_;refine pxq 5 9 ?_;refine pxq 6 10 ?_;refine pxq 7 11 ?_;refine pxq 8 12 ?_;refine ppq 9 13 ?_;refine ppq 10 14 ?_;refine pxq 11 15 ?_;refine pxq 12 16 ?_;refine pxq 13 17 ?_;refine pxq 14 18 ?_;exact Yq11_2
  ·rw[if_neg cq1] at H;have cq2:decide (240<(af.length:Int))=false:=decide_eq_false cq1;have cq3:decide (240<af.length)=false:=decide_eq_false (by omega);clear cq1;(first|rw[cq2]|(simp only[i64_w,i32_w];rw[cq2])|skip)
   by_cases cq4:(ae.length:Int)>240
   ·rw[if_pos cq4] at H;have cq5:decide (240<(ae.length:Int))=true:=decide_eq_true cq4;have cq6:decide (240<ae.length)=true:=decide_eq_true (by omega);clear cq4;have H':=aM H;clear H;try go_wp2
    replace aa:=bD aa;replace HB:=aM (below_drew1 HB.out);refine st_ (n:=34) (ds:=[]) (Array.replicate 34 false) (hK6 aa.out) (by kernel_rfl) rfl rfl (fun hHeld=>?_);refine with_tabW spec_DiskOk.tab1 spec_DiskOk.bits1 (fun HT_ HW_=>?_);generalize wq1.drew=wq2 at aa HB hHeld ⊢;refine ppq 0 4 ?_;refine ptq 1 5 ?_;refine ppq 2 6 ?_;refine ppq 3 7 ?_;refine ppq 4 8 ?_;refine ppq 5 9 ?_;refine ptq 6 10 ?_;refine ppq 7 11 ?_;refine ppq 8 12 ?_;refine ppq 9 13 ?_;refine ppq 10 14 ?_;refine pxq 11 15 ?_;refine pxq 12 16 ?_;refine pxq 13 17 ?_;refine pxq 14 18 ?_;exact Yq11_2
   ·rw[if_neg cq4] at H;have cq5:decide (240<(ae.length:Int))=false:=decide_eq_false cq4;have cq6:decide (240<ae.length)=false:=decide_eq_false (by omega);clear cq4;replace H:=bE H;obtain⟨t210,Aq1,H⟩:=H
    by_cases cq7:t210=true
    ·subst cq7;replace H:=ifT H
     by_cases cq8:ab=1
     ·rw[if_pos cq8] at H;have cq9:(ab==1)=true:=beq_iff_eq.mpr cq8;have cq10:(ab != 1)=false:=bne_eq_false_iff_eq.mpr cq8;clear cq8;replace H:=bE H;obtain⟨_,Aq2,H⟩:=H
      by_cases ah:ad>(ae.length:Int)
      ·rw[if_pos ah] at H;have ap:decide ((ae.length:Int)<ad)=true:=decide_eq_true ah;clear ah;have H':=aM H;clear H;try go_wp2
       replace aa:=bD aa;replace HB:=aM (below_drew1 HB.out);refine st_ (n:=34) (ds:=[]) (Array.replicate 34 false) (hK6 aa.out) (by kernel_rfl) rfl rfl (fun hHeld=>?_);refine with_tabW spec_DiskOk.tab1 spec_DiskOk.bits1 (fun HT_ HW_=>?_);generalize wq1.drew=wq2 at aa HB hHeld ⊢;refine ppq 0 4 ?_;refine ptq 1 5 ?_;refine ppq 2 6 ?_;refine ppq 3 7 ?_;refine ppq 4 8 ?_;refine ppq 5 9 ?_;refine ptq 6 10 ?_;refine ppq 7 11 ?_;refine ppq 8 12 ?_;refine ppq 9 13 ?_;refine ppq 10 14 ?_;refine ppq 11 15 ?_;refine ptq 12 16 ?_;refine poq 13 17 (fun K hK=>?_);refine gG Tryz.func85 #[.agg #[.int .i64 ag,.int .i64 ab,.int .i64 ad]] ?_;with_reducible refine(spec_l9Record.calls Aq1.out).mono ?_
       rintro e wq3 ⟨rfl,hb⟩;refine⟨_,rfl,?_⟩;replace aa:=mB aa hb;replace HB:=bS HB hb;(try clear hb);refine hK.out _ _ (cz6 aa.out) (fun hHeld=>?_);clear hK K;refine nR ?_;refine ppq 14 18 ?_;refine ppq 15 19 ?_;refine ppq 16 20 ?_;refine ppq 17 21 ?_;refine ppq 18 22 ?_;refine ppq 21 25 ?_;refine ppq 22 26 ?_;refine ptq 19 23 ?_;refine ptq 20 24 ?_;refine ptq 23 27 ?_;refine poq 24 28 (fun K hK=>?_);refine gG Tryz.func86 #[.agg #[.slice an af.length am,.slice al ae.length aj,.int .i64 ag,.int .i64 ab,.int .i64 ad,.slice ai ac.length ak],.int .i64 ab] ?_;with_reducible refine(spec_l9Slot.o1.calls _ _ af _ _ ae ag ab ad _ _ ac ab _ ?side1 ?side2 ?side3 ?side4 ?side5 ?side6 Aq2.out).mono ?_
       (case side1=>have X_:=(Kd.C_below ax.out HB.out);exact TC);(case side2=>exact aw.out);(case side3=>have X_:=(Kd.C_below ar.out HB.out);exact TC);(case side4=>exact av.out);(case side5=>have X_:=(Kd.C_below aq.out HB.out);exact TC);(case side6=>exact au.out);exact Yq11_3
      ·rw[if_neg ah] at H;have ap:decide ((ae.length:Int)<ad)=false:=decide_eq_false ah;clear ah;have H':=aM H;clear H;try go_wp2
       replace aa:=bD aa;replace HB:=aM (below_drew1 HB.out);refine st_ (n:=34) (ds:=[]) (Array.replicate 34 false) (hK6 aa.out) (by kernel_rfl) rfl rfl (fun hHeld=>?_);refine with_tabW spec_DiskOk.tab1 spec_DiskOk.bits1 (fun HT_ HW_=>?_);generalize wq1.drew=wq2 at aa HB hHeld ⊢;refine ppq 0 4 ?_;refine ptq 1 5 ?_;refine ppq 2 6 ?_;refine ppq 3 7 ?_;refine ppq 4 8 ?_;refine ppq 5 9 ?_;refine ptq 6 10 ?_;refine ppq 7 11 ?_;refine ppq 8 12 ?_;refine ppq 9 13 ?_;refine ppq 10 14 ?_;refine ppq 11 15 ?_;refine ptq 12 16 ?_;refine poq 13 17 (fun K hK=>?_);refine gG Tryz.func85 #[.agg #[.int .i64 ag,.int .i64 ab,.int .i64 ad]] ?_;with_reducible refine(spec_l9Record.calls Aq1.out).mono ?_
       rintro e wq3 ⟨rfl,hb⟩;refine⟨_,rfl,?_⟩;replace aa:=mB aa hb;replace HB:=bS HB hb;(try clear hb);refine hK.out _ _ (cz6 aa.out) (fun hHeld=>?_);clear hK K;refine nR ?_;refine ppq 14 18 ?_;refine ppq 15 19 ?_;refine ppq 16 20 ?_;refine ppq 17 21 ?_;refine ppq 18 22 ?_;refine ppq 21 25 ?_;refine ppq 22 26 ?_;refine ptq 19 23 ?_;refine ptq 20 24 ?_;refine ptq 23 27 ?_;refine poq 24 28 (fun K hK=>?_);refine gG Tryz.func86 #[.agg #[.slice an af.length am,.slice al ae.length aj,.int .i64 ag,.int .i64 ab,.int .i64 ad,.slice ai ac.length ak],.int .i64 ab] ?_;with_reducible refine(spec_l9Slot.o1.calls _ _ af _ _ ae ag ab ad _ _ ac ab _ ?side1 ?side2 ?side3 ?side4 ?side5 ?side6 Aq2.out).mono ?_
       (case side1=>have X_:=(Kd.C_below ax.out HB.out);exact TC);(case side2=>exact aw.out);(case side3=>have X_:=(Kd.C_below ar.out HB.out);exact TC);(case side4=>exact av.out);(case side5=>have X_:=(Kd.C_below aq.out HB.out);exact TC);(case side6=>exact au.out);exact Yq11_1
     ·rw[if_neg cq8] at H;have cq9:(ab==1)=false:=beq_eq_false_iff_ne.mpr cq8;have cq10:(ab != 1)=true:=bne_iff_ne.mpr cq8;replace H:=bE H;obtain⟨_,Aq2,H⟩:=H
      by_cases ah:ad>(af.length:Int)
      ·rw[if_pos ah] at H;have ap:decide ((af.length:Int)<ad)=true:=decide_eq_true ah;clear ah;have H':=aM H;clear H;try go_wp2
       replace aa:=bD aa;replace HB:=aM (below_drew1 HB.out);refine st_ (n:=34) (ds:=[]) (Array.replicate 34 false) (hK6 aa.out) (by kernel_rfl) rfl rfl (fun hHeld=>?_);refine with_tabW spec_DiskOk.tab1 spec_DiskOk.bits1 (fun HT_ HW_=>?_);generalize wq1.drew=wq2 at aa HB hHeld ⊢;refine ppq 0 4 ?_;refine ptq 1 5 ?_;refine ppq 2 6 ?_;refine ppq 3 7 ?_;refine ppq 4 8 ?_;refine ppq 5 9 ?_;refine ptq 6 10 ?_;refine ppq 7 11 ?_;refine ppq 8 12 ?_;refine ppq 9 13 ?_;refine ppq 10 14 ?_;refine ppq 11 15 ?_;refine ptq 12 16 ?_;refine poq 13 17 (fun K hK=>?_);refine gG Tryz.func85 #[.agg #[.int .i64 ag,.int .i64 ab,.int .i64 ad]] ?_;with_reducible refine(spec_l9Record.calls Aq1.out).mono ?_
       rintro e wq3 ⟨rfl,hb⟩;refine⟨_,rfl,?_⟩;replace aa:=mB aa hb;replace HB:=bS HB hb;(try clear hb);refine hK.out _ _ (cz6 aa.out) (fun hHeld=>?_);clear hK K;refine nR ?_;refine ppq 14 18 ?_;refine ppq 15 19 ?_;refine ppq 16 20 ?_;refine ppq 17 21 ?_;refine ppq 18 22 ?_;refine ppq 21 25 ?_;refine ppq 22 26 ?_;refine ptq 19 23 ?_;refine ptq 20 24 ?_;refine ptq 23 27 ?_;refine poq 24 28 (fun K hK=>?_);refine gG Tryz.func86 #[.agg #[.slice an af.length am,.slice al ae.length aj,.int .i64 ag,.int .i64 ab,.int .i64 ad,.slice ai ac.length ak],.int .i64 ab] ?_;with_reducible refine(spec_l9Slot.o0.calls _ _ af _ _ ae ag ab ad _ _ ac ab _ ?side1 ?side2 ?side3 ?side4 ?side5 ?side6 Aq2.out).mono ?_
       (case side1=>have X_:=(Kd.C_below ax.out HB.out);exact TC);(case side2=>exact aw.out);(case side3=>have X_:=(Kd.C_below ar.out HB.out);exact TC);(case side4=>exact av.out);(case side5=>have X_:=(Kd.C_below aq.out HB.out);exact TC);(case side6=>exact au.out);exact Yq11_3
      ·rw[if_neg ah] at H;have ap:decide ((af.length:Int)<ad)=false:=decide_eq_false ah;clear ah;have H':=aM H;clear H;try go_wp2
       replace aa:=bD aa;replace HB:=aM (below_drew1 HB.out);refine st_ (n:=34) (ds:=[]) (Array.replicate 34 false) (hK6 aa.out) (by kernel_rfl) rfl rfl (fun hHeld=>?_);refine with_tabW spec_DiskOk.tab1 spec_DiskOk.bits1 (fun HT_ HW_=>?_);generalize wq1.drew=wq2 at aa HB hHeld ⊢;refine ppq 0 4 ?_;refine ptq 1 5 ?_;refine ppq 2 6 ?_;refine ppq 3 7 ?_;refine ppq 4 8 ?_;refine ppq 5 9 ?_;refine ptq 6 10 ?_;refine ppq 7 11 ?_;refine ppq 8 12 ?_;refine ppq 9 13 ?_;refine ppq 10 14 ?_;refine ppq 11 15 ?_;refine ptq 12 16 ?_;refine poq 13 17 (fun K hK=>?_);refine gG Tryz.func85 #[.agg #[.int .i64 ag,.int .i64 ab,.int .i64 ad]] ?_;with_reducible refine(spec_l9Record.calls Aq1.out).mono ?_
       rintro e wq3 ⟨rfl,hb⟩;refine⟨_,rfl,?_⟩;replace aa:=mB aa hb;replace HB:=bS HB hb;(try clear hb);refine hK.out _ _ (cz6 aa.out) (fun hHeld=>?_);clear hK K;refine nR ?_;refine ppq 14 18 ?_;refine ppq 15 19 ?_;refine ppq 16 20 ?_;refine ppq 17 21 ?_;refine ppq 18 22 ?_;refine ppq 21 25 ?_;refine ppq 22 26 ?_;refine ptq 19 23 ?_;refine ptq 20 24 ?_;refine ptq 23 27 ?_;refine poq 24 28 (fun K hK=>?_);refine gG Tryz.func86 #[.agg #[.slice an af.length am,.slice al ae.length aj,.int .i64 ag,.int .i64 ab,.int .i64 ad,.slice ai ac.length ak],.int .i64 ab] ?_;with_reducible refine(spec_l9Slot.o0.calls _ _ af _ _ ae ag ab ad _ _ ac ab _ ?side1 ?side2 ?side3 ?side4 ?side5 ?side6 Aq2.out).mono ?_
       (case side1=>have X_:=(Kd.C_below ax.out HB.out);exact TC);(case side2=>exact aw.out);(case side3=>have X_:=(Kd.C_below ar.out HB.out);exact TC);(case side4=>exact av.out);(case side5=>have X_:=(Kd.C_below aq.out HB.out);exact TC);(case side6=>exact au.out);exact Yq11_1
    ·replace cq7:=b_F cq7;subst cq7;replace H:=ifF H;have H':=aM H;clear H;try go_wp2
     replace aa:=bD aa;replace HB:=aM (below_drew1 HB.out);refine st_ (n:=34) (ds:=[]) (Array.replicate 34 false) (hK6 aa.out) (by kernel_rfl) rfl rfl (fun hHeld=>?_);refine with_tabW spec_DiskOk.tab1 spec_DiskOk.bits1 (fun HT_ HW_=>?_);generalize wq1.drew=wq2 at aa HB hHeld ⊢;refine ppq 0 4 ?_;refine ptq 1 5 ?_;refine ppq 2 6 ?_;refine ppq 3 7 ?_;refine ppq 4 8 ?_;refine ppq 5 9 ?_;refine ptq 6 10 ?_;refine ppq 7 11 ?_;refine ppq 8 12 ?_;refine ppq 9 13 ?_;refine ppq 10 14 ?_;refine ppq 11 15 ?_;refine ptq 12 16 ?_;refine poq 13 17 (fun K hK=>?_);refine gG Tryz.func85 #[.agg #[.int .i64 ag,.int .i64 ab,.int .i64 ad]] ?_;with_reducible refine(spec_l9Record.calls Aq1.out).mono ?_
     rintro e wq3 ⟨rfl,hb⟩;refine⟨_,rfl,?_⟩;replace aa:=mB aa hb;replace HB:=bS HB hb;(try clear hb);refine hK.out _ _ (cz6 aa.out) (fun hHeld=>?_);clear hK K;refine nR ?_;refine ppq 14 18 ?_;exact Yq11_2
 case rest=>
  clear ay;obtain⟨kq,xq1,rfl,HA,HJq1,aa,HB⟩:=hcut;cases kq with
  |zero=>exact absurd HA.out (by simp [spec_DiskOk.j0])
  | succ kj1=>
   have H:=HA.out;clear HA;simp only[spec_DiskOk.j0] at H
   by_cases cq6:xq1=true
   ·subst cq6;replace H:=ifT H;obtain rfl:=o_I H;go_wp2
    go_ret
    exact⟨TE,TB⟩
   ·replace cq6:=b_F cq6;subst cq6;replace H:=ifF H;have H':=aM H;clear H;go_wp2
    go_loopg [3] kj1 (fun kq vq2 w'=>∃(xq2:Int),vq2=.int .i64 xq2∧Aside0 (spec_DiskOk.l0 kq xq2 af ae ag ab ad ac=some r)∧Aside0 (kq≤kj1)∧Aside0 (w'.heap[gbq1]?=some (.cells #[(.slice an af.length am),(.slice al ae.length aj),.int .i64 ag,.int .i64 ab,.int .i64 ad,(.slice ai ac.length ak)] 39 (0,0)))∧Aside0 (Below w.heap.size w w'))
    case atStart=>exact⟨(0),TF,H',⟨Nat.le_refl _⟩,⟨TK⟩,⟨TB⟩⟩
    case round=>
     clear H';try clear cq6
     obtain⟨xq2,rfl,HA,HKq1,aa,HB⟩:=hrel;cases gk with
     |zero=>exact absurd HA.out (by simp [spec_DiskOk.l0])
     | succ k2=>
      have H:=HA.out;clear HA;simp only[spec_DiskOk.l0] at H
      by_cases cq7:xq2<(ac.length:Int)
      ·rw[if_pos cq7] at H;have cq8:decide (xq2<(ac.length:Int))=true:=decide_eq_true cq7;clear cq7;replace H:=ifN H;obtain⟨cq9,H⟩:=H;have cq10:decide (0≤xq2)=true:=decide_eq_true cq9;clear cq9;replace H:=bE H;obtain⟨t212,Aq1,H⟩:=H;obtain⟨hczq1,hczq2,hczq3,hczq4,hczq5,hczq6⟩:=cz6 aa.out;obtain⟨hfzq1,hfzq2,hfzq3,hfzq4,hfzq5,hfzq6⟩:=fz6 aa.out;have pq2:0≤(xq2:Int):=DT;have qq1:xq2<(ac.length:Int):=DT;obtain⟨adq1,Aq2,ah,eq1,aC,aB,aA,az,aD,aE,hlq1,hiq1⟩:=at_T91 aq.out xq2 pq2 qq1;cases eq1;replace aC:=(HB.out.cell (World.block_lt_of_cell? w _ aC)).trans aC;replace aB:=(HB.out.cell (World.block_lt_of_cell? w _ aB)).trans aB;replace aA:=(HB.out.cell (World.block_lt_of_cell? w _ aA)).trans aA;replace az:=(HB.out.cell (World.block_lt_of_cell? w _ az)).trans az;replace aD:=(HB.out.cell (World.block_lt_of_cell? w _ aD)).trans aD;replace aE:=(HB.out.cell (World.block_lt_of_cell? w _ aE)).trans aE;have HRq4:=aM hiq1;have HCq5:=aM hlq1;clear hiq1 hlq1;replace pq2:=eq_true pq2;replace qq1:=eq_true qq1;go_wp2_with (first|(refine g_C 87 ?_;refine gL (some 50) Tryz.func87 #[.agg #[.int .i64 ((rd_T91 ac xq2).f0),.int .i64 ((rd_T91 ac xq2).f1),.slice Aq2 ((rd_T91 ac xq2).f2).length ah,.int .i64 ((rd_T91 ac xq2).f3.f0),.int .i64 ((rd_T91 ac xq2).f3.f1),.int .i64 ((rd_T91 ac xq2).f3.f2)]] ?_;(with_reducible refine(spec_l9Put.calls ?side1 ?side2 Aq1.out).mono ?_);(case side1=>have X_:=(Kd.C_below HRq4.out HB.out);exact TC);(case side2=>exact HCq5.out);rintro e wq2 ⟨rfl,hb⟩;refine⟨_,rfl,?_⟩;replace aa:=mB aa hb;replace HB:=bS HB hb;clear hb)|(refine g_D 51 ?_;generalize hG_:wpList _ _ _ _ _ _=G_))
       subst hG_
       by_cases ap:t212=true
       ·subst ap;replace H:=ifT H;have H':=aM H;clear H;go_wp2
        go_roundg k2
        case measure=>have:=HJq1.out;have:=HKq1.out;omega
        case rel=>exact⟨(wrap64 (xq2+1)),TF,H',⟨by have:=HJq1.out;have:=HKq1.out;omega⟩,⟨TK⟩,⟨TB⟩⟩
       ·replace ap:=b_F ap;subst ap;replace H:=ifF H;obtain rfl:=o_I H;go_wp2
        go_ret
        exact⟨TE,TB⟩
      ·rw[if_neg cq7] at H;have cq8:decide (xq2<(ac.length:Int))=false:=decide_eq_false cq7;clear cq7;obtain rfl:=o_I H;obtain⟨hczq1,hczq2,hczq3,hczq4,hczq5,hczq6⟩:=cz6 aa.out;obtain⟨hfzq1,hfzq2,hfzq3,hfzq4,hfzq5,hfzq6⟩:=fz6 aa.out;go_wp2
       go_ret
       exact⟨TE,TB⟩
def spec_BlockAt.f (c:List Int)(d:Int)(e:Int):Option (List Int×Bool):=(spec_SpanOf.f d (c.length:Int) e).bind fun a=>(if a.2=0 then (some ((([]:List Int)),false)) else ((some (([]:List Int):List Int)).bind fun b=>(if 0≤a.1 then (if a.1≤(wrap64 (a.1+a.2)) then (if (wrap64 (a.1+a.2))≤(c.length:Int) then (if b.length+((c.take ((wrap64 (a.1+a.2)):Int).toNat).drop (a.1:Int).toNat).length<140737488355328 then (some ((b++((c.take ((wrap64 (a.1+a.2)):Int).toNat).drop (a.1:Int).toNat)),true)) else (none)) else (none)) else (none)) else (none))))
theorem spec_BlockAt.calls {A0:Option Addr}{c0:Nat}{l0:List Int}{a1:Int}{a2:Int}{r1:List Int}{r2:Bool}{w:World}(hr0:Kd.C (Kd.int .u8) w A0 l0.length l0)(hc0:l0.length≤c0)(h:spec_BlockAt.f l0 a1 a2=some (r1,r2)):
    Calls Tryz.prog 57 #[.slice A0 l0.length c0,.int .i64 a1,.int .i64 a2] w fun e w'=>∃v0_:Value,e=.returned (.tuple #[v0_,.bool r2])∧Kd.R (Kd.int .u8) 5 w' w.heap.size (fun _=>True) v0_ r1∧Below w.heap.size w w':=by
  have HRq1:=aM hr0
  have HCq1:=aM hc0
  clear hr0 hc0
  have HB:=aM (Below.refl w.heap.size w)
  have H:=h
  clear h
  unfold spec_BlockAt.f at H
  replace H:=bE H
  obtain⟨⟨tq1,tq2⟩,Aq1,H⟩:=H
  dsimp only at H
  by_cases cq1:tq2=0
  ·rw[if_pos cq1] at H
   have cq2:(tq2==0)=true:=beq_iff_eq.mpr cq1
   have cq3:(tq2 != 0)=false:=bne_eq_false_iff_eq.mpr cq1
   clear cq1
   obtain⟨yq1,hyq1⟩:∃y_:List Int,y_=(([]:List Int)):=⟨_,rfl⟩
   rw[← hyq1] at H
   have Nyq1:=aM hyq1
   clear hyq1
   simp only[Option.some.injEq,Prod.mk.injEq] at H
   obtain⟨rfl,rfl⟩:=H
   go_enter Tryz.func57,Tryz.ntmps57
   go_wp2_with (first|(refine g_C 56 ?_;refine gL (some 15) Tryz.func56 #[.int .i64 a1,.int .i64 (l0.length:Int),.int .i64 a2] ?_;(with_reducible refine(spec_SpanOf.calls Aq1.out).mono ?_);rintro e w' ⟨rfl,⟨nd,rfl⟩⟩;refine⟨_,rfl,?_⟩)|(refine g_D 20 ?_;refine Kd.R_lit (Kd.int .u8) _ 5 ?hg (N:=20) ?hd (xs:=([]:List Int)) (inner:=[]) (ok:=fun _=>True) (okp:=fun _=>True) ?hr ?hp (fun _ hk=>hk) trivial (Below.refl _ _) (Nat.le_refl _) (by simp) ?_;(case hd=>rfl);(case hg=>rfl);(case hr=>first|(go_simp;done)|(go_simp;rfl));(case hp=>exact(Reps.none _ _));intro vq1 wq1 hoq1 hb hg_ hnew_;clear hg_ hnew_;(first|rw[← Nyq1.out] at hoq1|(simp only[Int.reduceToNat] at hoq1;rw[← Nyq1.out] at hoq1));have HOq1:=aM (Kd.R_lower hoq1 (below_size TB));replace HB:=bS HB hb;clear hb hoq1))
   go_ret2
   exact⟨_,TE,by have X_:=HOq1.out;exact TR,TB⟩
  ·rw[if_neg cq1] at H
   have cq2:(tq2==0)=false:=beq_eq_false_iff_ne.mpr cq1
   have cq3:(tq2 != 0)=true:=bne_iff_ne.mpr cq1
   obtain⟨y218,hyq1⟩:∃y_:List Int,y_=(([]:List Int)):=⟨_,rfl⟩
   replace H:=someE H hyq1
   have Nyq1:=aM hyq1
   clear hyq1
   replace H:=ifN H
   obtain⟨cq4,H⟩:=H
   have cq5:=eq_true cq4
   have cq6:decide (0≤tq1)=true:=decide_eq_true cq4
   clear cq4
   replace H:=ifN H
   obtain⟨cq7,H⟩:=H
   have cq8:=eq_true cq7
   have cq9:decide (tq1≤(wrap64 (tq1+tq2)))=true:=decide_eq_true cq7
   replace H:=ifN H
   obtain⟨cq10,H⟩:=H
   have cq11:=eq_true cq10
   have cq12:decide ((wrap64 (tq1+tq2))≤(l0.length:Int))=true:=decide_eq_true cq10
   replace H:=ifN H
   obtain⟨cq13,H⟩:=H
   have LMcq1:=aM cq13
   clear cq13
   obtain⟨yq1,hyq2⟩:∃y_:List Int,y_=(y218++((l0.take ((wrap64 (tq1+tq2)):Int).toNat).drop (tq1:Int).toNat)):=⟨_,rfl⟩
   rw[← hyq2] at H
   have Nyq2:=aM hyq2
   clear hyq2
   simp only[Option.some.injEq,Prod.mk.injEq] at H
   obtain⟨rfl,rfl⟩:=H
   go_enter Tryz.func57,Tryz.ntmps57
   go_wp2_with (first|(refine g_C 56 ?_;refine gL (some 15) Tryz.func56 #[.int .i64 a1,.int .i64 (l0.length:Int),.int .i64 a2] ?_;(with_reducible refine(spec_SpanOf.calls Aq1.out).mono ?_);rintro e w' ⟨rfl,⟨nd,rfl⟩⟩;refine⟨_,rfl,?_⟩)|(refine g_D 21 ?_;refine Kd.R_lit (Kd.int .u8) _ 5 ?hg (N:=21) ?hd (xs:=([]:List Int)) (inner:=[]) (ok:=fun _=>True) (okp:=fun _=>True) ?hr ?hp (fun _ hk=>hk) trivial (Below.refl _ _) (Nat.le_refl _) (by simp) ?_;(case hd=>rfl);(case hg=>rfl);(case hr=>first|(go_simp;done)|(go_simp;rfl));(case hp=>exact(Reps.none _ _));intro vq1 wq1 hoq1 hb hg_ hnew_;clear hg_ hnew_;(first|rw[← Nyq1.out] at hoq1|(simp only[Int.reduceToNat] at hoq1;rw[← Nyq1.out] at hoq1));have HOq1:=aM (Kd.R_lower hoq1 (below_size TB));replace HB:=bS HB hb;clear hb hoq1;obtain⟨iq1,hiq1,_,hszq1,_⟩:=info_parts info5;obtain⟨Aq2,hcutq1,hAq1,hCq1⟩:=print_mid_of (P:=Tryz.prog) (Value.int .u8) 0 22 5 .i64 .i64 Tryz.underlying22 hiq1 hszq1 A0 c0 l0 tq1 (wrap64 (tq1+tq2)) DT (by first|omega|exact DT) DT HCq1.out;have HRq2:=aM (Kd.C_of_reads (h1:=fun _=>rfl) (hAq1 _ (Kd.reads_of_C HRq1.out)));have HCq2:=aM hCq1;clear hAq1 hCq1 hiq1 hszq1)|((with_reducible refine gate_builtin (b:=.append) (xs:=#[.tmp 21,.tmp 27]) rfl ?_);at_builtin;refine Kd.R_append_rows (Kd.int .u8) (w0:=w) w.heap.size rfl (.tmp 21) (.tmp 27) 22 5 (.int .u8 0) 1 rfl Tryz.underlying22 info5 rfl (by decide) (by omega) vq1 y218 ((l0.take ((wrap64 (tq1+tq2)):Int).toNat).drop (tq1:Int).toNat) _ _ _ (fun _=>True) (fun _=>False) rfl rfl ?aO ?aR (fun _ _ h=>h) (fun _ h=>h.elim) ?aF ?aB ?aS ?aL ?_;(case aR=>first|((conv=>arg 5;rw[← show((l0.take ((wrap64 (tq1+tq2)):Int).toNat).drop (tq1:Int).toNat).length=((wrap64 (tq1+tq2)).toNat - tq1.toNat) from(by rw[List.length_drop,List.length_take];have h_:((wrap64 (tq1+tq2)):Int)≤(l0.length:Int):=DT;omega)]);repeat (first|exact(Kd.C_below HRq2.out HB.out)|(with_reducible refine Kd.C_alloc ?_ _)|(with_reducible refine Kd.C_drewN ?_ _)|(with_reducible refine Kd.C_drew ?_)))|(repeat (first|exact(Kd.C_below HRq2.out HB.out)|(with_reducible refine Kd.C_alloc ?_ _)|(with_reducible refine Kd.C_drewN ?_ _)|(with_reducible refine Kd.C_drew ?_))));(case aB=>exact TB);(case aF=>exact(fun _ _=>trivial));(case aO=>exact(TRf HOq1));(case aS=>exact(below_size TB));(case aL=>have:=LMcq1.out;have hlx_:=(show((l0.take ((wrap64 (tq1+tq2)):Int).toNat).drop (tq1:Int).toNat).length=((wrap64 (tq1+tq2)).toNat - tq1.toNat) from(by rw[List.length_drop,List.length_take];have h_:((wrap64 (tq1+tq2)):Int)≤(l0.length:Int):=DT;omega));omega);intro vq2 wq2 ho hb hg hat;rw[← Nyq2.out] at ho;have HOq2:=aM (ho);replace HB:=aM (hb);clear HOq1;clear ho hb hg hat))
   go_ret2
   exact⟨_,TE,by have X_:=HOq2.out;exact TR,TB⟩
theorem Zq13_0 {p:Prop}(h:p:=by (with_reducible repeat (first|apply Kd.S_alloc|apply Kd.S_drewN|apply Kd.S_drew));exact(S_off (Kd.S_types ay.out aa.out (by decide)) TO)):p:=h
def spec_l9Add.f (k:Nat)(d:List Int)(e:List Int)(f:Int)(g:Int)(h:Int)(i:List (S91))(l:Int)(m:Int)(n:List Int)(o:Int)(p:Int)(q:Int):Option (List Int×List Int×Int×Int×Int×(List (S91))×Bool):=(spec_l9Copy.f k d e f g h i).bind fun a=>((spec_l9CopyPut.f l m n o p q).bind fun b=>(if a.2.2.2.2.2.length<2199023255552 then ((some (a.2.2.2.2.2++[(⟨b.1,b.2.1,b.2.2.1,(⟨b.2.2.2.1,b.2.2.2.2.1,b.2.2.2.2.2⟩:S36)⟩:S91)]:List (S91))).bind fun j=>((spec_DiskOk.f k a.1 a.2.1 a.2.2.1 a.2.2.2.1 a.2.2.2.2.1 j).bind fun r=>(if r=true then (some (a.1,a.2.1,a.2.2.1,a.2.2.2.1,a.2.2.2.2.1,j,true)) else ((spec_l9Copy.f k d e f g h i).bind fun c=>(some (c.1,c.2.1,c.2.2.1,c.2.2.2.1,c.2.2.2.2.1,c.2.2.2.2.2,false)))))) else (none)))
theorem spec_l9Add.mono :∀c d e f g h i j l m a b k,LeO (spec_l9Add.f k c d e f g h i j l m a b) (spec_l9Add.f (k+1) c d e f g h i j l m a b):=by
  intro a0 a1 a2 a3 a4 a5 a6 a7 a8 a9 a10 a11 k;have m0_:=@spec_DiskOk.mono;have m1_:=@spec_l9Copy.mono;unfold spec_l9Add.f;exact LM
def spec_l9Add.T2 :Bool×List (List Nat×List Nat):=(true,[([],[]),([0],[0]),([],[]),([2],[2]),([3],[3]),([1,4,3],[1,4]),([0,1,2,3,4,5],[]),([6,5,5,0,1,2,3,4,5],[5,6])])
def spec_l9Add.B2 :List Nat:=[0,1,0,4,12,31,63,127]
theorem spec_l9Add.tab2 :rtab .any (opsOf Tryz.f60 2)=spec_l9Add.T2:=by kernel_rfl
theorem spec_l9Add.bits2 :waitsOk spec_l9Add.T2.2 spec_l9Add.B2=true:=by kernel_rfl
theorem spec_l9Add.calls {k:Nat}{aA:Option Addr}{aE:Nat}{ak:List Int}{aD:Option Addr}{aH:Nat}{al:List Int}{ar:Int}{av:Int}{au:Int}{aG:Option Addr}{aC:Nat}{aj:List (S91)}{am:Int}{ao:Int}{ax:Option Addr}{aw:Nat}{ai:List Int}{an:Int}{aq:Int}{ap:Int}{r1:List Int}{r2:List Int}{r3:Int}{r4:Int}{r5:Int}{r6:List (S91)}{r7:Bool}{w:World}(aZ:Kd.C (Kd.int .u8) w aA ak.length ak)(aY:ak.length≤aE)(bc:Kd.C (Kd.int .u8) w aD al.length al)(bb:al.length≤aH)(ba:Kd.C k91 w aG aj.length aj)(bd:aj.length≤aC)(aX:Kd.C (Kd.int .u8) w ax ai.length ai)(aW:ai.length≤aw)(h:spec_l9Add.f k ak al ar av au aj am ao ai an aq ap=some (r1,r2,r3,r4,r5,r6,r7)):
  Calls Tryz.prog 60 #[.agg #[.slice aA ak.length aE,.slice aD al.length aH,.int .i64 ar,.int .i64 av,.int .i64 au,.slice aG aj.length aC],.agg #[.int .i64 am,.int .i64 ao,.slice ax ai.length aw,.int .i64 an,.int .i64 aq,.int .i64 ap]] w fun e w'=>∃v0_ v1_ v5_:Value,e=.returned (.tuple #[.agg #[v0_,v1_,.int .i64 r3,.int .i64 r4,.int .i64 r5,v5_],.bool r7])∧Kd.R (Kd.int .u8) 5 w' w.heap.size (fun k_=>some k_≠(v1_:Value).ownBlock) v0_ r1∧Kd.R (Kd.int .u8) 5 w' w.heap.size (fun k_=>some k_≠(v0_:Value).ownBlock) v1_ r2∧Kd.S k91 91 w' w.heap.size (fun k_=>some k_≠(v0_:Value).ownBlock∧some k_≠(v1_:Value).ownBlock) v5_ r6∧Below w.heap.size w w':=by
 have huq1:=Tryz.underlying39;have huq2:=Tryz.underlying91;have HRq1:=aM aZ;have HCq1:=aM aY;clear aZ aY;have HRq2:=aM bc;have HCq2:=aM bb;clear bc bb;have HRq3:=aM ba;have HCq3:=aM bd;clear ba bd;have HRq4:=aM aX;have HCq4:=aM aW;clear aX aW;have HB:=aM (Below.refl w.heap.size w);have H:=h;clear h;unfold spec_l9Add.f at H;replace H:=bE H;obtain⟨⟨tq1,tq2,tq3,tq4,tq5,tq6⟩,Aq1,H⟩:=H;dsimp only at H;replace H:=bE H;obtain⟨⟨tq7,tq8,tq9,aJ,aK,aN⟩,Aq2,H⟩:=H;dsimp only at H;replace H:=ifN H;obtain⟨cq1,H⟩:=H;have LMcq1:=aM cq1;clear cq1;obtain⟨aQ,aV⟩:∃y_:List (S91),y_=(tq6++[(⟨tq7,tq8,tq9,(⟨aJ,aK,aN⟩:S36)⟩:S91)]):=⟨_,rfl⟩;replace H:=someE H aV;have Nyq1:=aM aV;clear aV;replace H:=bE H;obtain⟨t252,Aq3,H⟩:=H;go_enter Tryz.func60,Tryz.ntmps60;try go_wp2_with (first|(refine g_D 2 ?_;refine gBx 2 #[.slice aA ak.length aE,.slice aD al.length aH,.int .i64 ar,.int .i64 av,.int .i64 au,.slice aG aj.length aC] 39 ?_;intro gbq1 hg wq1 hbox hb;have ad:=aM (hbox);have GWq1:=gW HB hg;have GEq1:=gW HB hg;replace HB:=bS HB hb;clear hb hbox hg)|(refine g_D 3 ?_;refine gBx 3 #[.int .i64 am,.int .i64 ao,.slice ax ai.length aw,.int .i64 an,.int .i64 aq,.int .i64 ap] 91 ?_;intro gbq2 hg wq2 hbox hb;have ab:=aM (hbox);have GWq2:=gW HB hg;have GEq2:=gW HB hg;obtain⟨NBq1,NBq2⟩:=nB ad hg;replace ad:=mB ad hb;replace HB:=bS HB hb;clear hb hbox hg)|(refine g_D 4 ?_;refine gBx 4 #[.slice none 0 0,.slice none 0 0,.int .i64 0,.int .i64 0,.int .i64 0,.slice none 0 0] 39 ?_;intro gbq3 hg wq3 hbox hb;have ac:=aM (hbox);have GWq3:=gW HB hg;have GEq3:=gW HB hg;obtain⟨NBq3,NBq4⟩:=nB ad hg;obtain⟨NBq5,NBq6⟩:=nB ab hg;replace ad:=mB ad hb;replace ab:=mB ab hb;replace HB:=bS HB hb;clear hb hbox hg;obtain⟨hnbq1,hncq1⟩:=oB NBq1;obtain⟨hnbq2,hncq2⟩:=oB NBq3;obtain⟨hczq1,hczq2,hczq3,hczq4,hczq5,hczq6⟩:=cz6 ad.out;obtain⟨hfzq1,hfzq2,hfzq3,hfzq4,hfzq5,hfzq6⟩:=fz6 ad.out)|(refine g_C 30 ?_;refine gL (some 8) Tryz.func30 #[.agg #[.slice aA ak.length aE,.slice aD al.length aH,.int .i64 ar,.int .i64 av,.int .i64 au,.slice aG aj.length aC]] ?_;(with_reducible refine(spec_l9Copy.calls ?side1 ?side2 ?side3 ?side4 ?side5 ?side6 Aq1.out).mono ?_);(case side1=>have X_:=(Kd.C_below HRq1.out HB.out);exact TC);(case side2=>exact HCq1.out);(case side3=>have X_:=(Kd.C_below HRq2.out HB.out);exact TC);(case side4=>exact HCq2.out);(case side5=>have X_:=(Kd.C_below HRq3.out HB.out);exact TC);(case side6=>exact HCq3.out);rintro e wq4 ⟨vq1,vq2,vq3,rfl,ah,az,aI,hb⟩;refine⟨_,rfl,?_⟩;have af:=aM (Kd.R_lower ah (below_size TB));have ae:=aM (Kd.R_lower az (below_size TB));have ag:=aM (Kd.S_lower (Kd.S_newB aI (g:=gbq2) (o:=.cells #[.int .i64 am,.int .i64 ao,.slice ax ai.length aw,.int .i64 an,.int .i64 aq,.int .i64 ap] 91 (0,0)) TK) (below_size TB));replace ad:=mB ad hb;replace ab:=mB ab hb;replace ac:=mB ac hb;replace HB:=bS HB hb;clear ah az aI hb)|(refine g_D 6 ?_;refine gBx 6 #[.slice none 0 0,.slice none 0 0,.int .i64 0,.int .i64 0,.int .i64 0,.slice none 0 0] 39 ?_;intro gbq4 hg wq5 hbox hb;have aa:=aM (hbox);have GWq4:=gW HB hg;have GEq4:=gW HB hg;obtain⟨NBq7,NBq8⟩:=nB ad hg;obtain⟨NBq9,NBq10⟩:=nB ab hg;obtain⟨NBq11,NBq12⟩:=nB ac hg;replace af:=mR af hb;replace ae:=mR ae hb;replace ag:=aM (Kd.S_below (by have X_:=ag.out;exact TS) hb);replace ad:=mB ad hb;replace ab:=mB ab hb;replace ac:=mB ac hb;replace HB:=bS HB hb;clear hb hbox hg;obtain⟨Aoq1,coq1,eoq1⟩:=Kd.R_slice af.out;subst eoq1;obtain⟨hnbq3,hncq3⟩:=oB NBq8;obtain⟨hnbq4,hncq4⟩:=oB NBq10;obtain⟨hnbq5,hncq5⟩:=oB NBq12;obtain⟨hczq7,hczq8,hczq9,hczq10,hczq11,hczq12⟩:=cz6 aa.out;obtain⟨hfzq7,hfzq8,hfzq9,hfzq10,hfzq11,hfzq12⟩:=fz6 aa.out;obtain⟨Aoq2,coq2,eoq2⟩:=Kd.R_slice ae.out;subst eoq2;obtain⟨Aoq3,coq3,eoq3⟩:=Kd.S_slice ag.out;subst eoq3))
 generalize hX_:(((((wq5.setCell ⟨gbq4,0,none⟩ (.slice Aoq1 tq1.length coq1)).setCell ⟨gbq4,1,none⟩ (.slice Aoq2 tq2.length coq2)).setCell ⟨gbq4,2,none⟩ (.int .i64 tq3)).setCell ⟨gbq4,3,none⟩ (.int .i64 tq4)).setCell ⟨gbq4,4,none⟩ (.int .i64 tq5)).setCell ⟨gbq4,5,none⟩ (.slice Aoq3 tq6.length coq3)=wq6;replace af:Aside0 (Kd.R (Kd.int .u8) 5 wq6 w.heap.size (fun k_=>some k_≠(.slice Aoq2 tq2.length coq2:Value).ownBlock) (.slice Aoq1 tq1.length coq1) tq1):=⟨by rw[← hX_];(with_reducible repeat (first|apply Kd.R_alloc|apply Kd.R_drewN|apply Kd.R_drew));exact Kd.R_mono (RK1 (Kd.R_types af.out aa.out (by decide))) (fun _ hk=>hk.1)⟩;replace ae:Aside0 (Kd.R (Kd.int .u8) 5 wq6 w.heap.size (fun k_=>some k_≠(.slice Aoq1 tq1.length coq1:Value).ownBlock) (.slice Aoq2 tq2.length coq2) tq2):=⟨by rw[← hX_];(with_reducible repeat (first|apply Kd.R_alloc|apply Kd.R_drewN|apply Kd.R_drew));exact Kd.R_mono (RK1 (Kd.R_types ae.out aa.out (by decide))) (fun _ hk=>hk.1)⟩;replace ag:Aside0 (Kd.S k91 91 wq6 w.heap.size (fun k_=>some k_≠(.slice Aoq1 tq1.length coq1:Value).ownBlock∧some k_≠(.slice Aoq2 tq2.length coq2:Value).ownBlock∧k_≠gbq2) (.slice Aoq3 tq6.length coq3) tq6):=⟨by rw[← hX_];(with_reducible repeat (first|apply Kd.S_alloc|apply Kd.S_drewN|apply Kd.S_drew));exact Kd.S_mono (SK1 (Kd.S_types ag.out aa.out (by decide))) (fun _ hk=>⟨hk.1.1.1,⟨hk.1.1.2,hk.1.2⟩⟩)⟩;replace ad:Aside0 (wq6.heap[gbq1]?=some (.cells #[.slice aA ak.length aE,.slice aD al.length aH,.int .i64 ar,.int .i64 av,.int .i64 au,.slice aG aj.length aC] 39 (0,0))):=⟨by rw[← hX_];exact(TZ ad)⟩;replace ab:Aside0 (wq6.heap[gbq2]?=some (.cells #[.int .i64 am,.int .i64 ao,.slice ax ai.length aw,.int .i64 an,.int .i64 aq,.int .i64 ap] 91 (0,0))):=⟨by rw[← hX_];exact(TZ ab)⟩;replace ac:Aside0 (wq6.heap[gbq3]?=some (.cells #[.slice none 0 0,.slice none 0 0,.int .i64 0,.int .i64 0,.int .i64 0,.slice none 0 0] 39 (0,0))):=⟨by rw[← hX_];exact(TZ ac)⟩;replace aa:Aside0 (wq6.heap[gbq4]?=some (.cells #[.slice Aoq1 tq1.length coq1,.slice Aoq2 tq2.length coq2,.int .i64 tq3,.int .i64 tq4,.int .i64 tq5,.slice Aoq3 tq6.length coq3] 39 (0,0))):=⟨by rw[← hX_];exact(blk_put (blk_put (blk_put (blk_put (blk_put (blk_put (cs:=#[.slice none 0 0,.slice none 0 0,.int .i64 0,.int .i64 0,.int .i64 0,.slice none 0 0]) (TZ aa) 0 _ rfl) 1 _ rfl) 2 _ rfl) 3 _ rfl) 4 _ rfl) 5 _ rfl)⟩;replace HB:Aside0 (Below w.heap.size w wq6):=⟨by rw[← hX_];exact TB⟩;clear hX_;replace af:=rD af;replace ae:=rD ae;replace ag:=aM (Kd.S_drew ag.out);replace ad:=bD ad;replace ab:=bD ab;replace ac:=bD ac;replace aa:=bD aa;replace HB:=aM (below_drew1 HB.out);refine st_ (n:=8) (ds:=[7]) (Array.replicate 8 false) (hJ6 aa.out (hK6 ab.out)) (by kernel_rfl) rfl rfl (fun hHeld=>?_);refine with_tabW spec_l9Add.tab2 spec_l9Add.bits2 (fun HT_ HW_=>?_);generalize wq6.drew=wq7 at af ae ag ad ab ac aa HB af ae ag hHeld ⊢;refine ppq 0 9 ?_;refine ptq 1 10 ?_;refine ptq 2 11 ?_;refine poq 3 12 (fun K hK=>?_);refine gG Tryz.func61 #[.agg #[.int .i64 am,.int .i64 ao,.slice ax ai.length aw,.int .i64 an,.int .i64 aq,.int .i64 ap]] ?_;with_reducible refine(spec_l9CopyPut.calls ?side1 ?side2 Aq2.out).mono ?_
 (case side1=>have X_:=(Kd.C_below HRq4.out HB.out);exact TC);(case side2=>exact HCq4.out);rintro e wq8 ⟨vq4,rfl,ah,hb⟩;refine⟨_,rfl,?_⟩;have n0_:=aM (Kd.R_elder' (TRf af) (Kd.R_base ah) hb);have n1_:=aM (Kd.R_elder' (TRf ae) (Kd.R_base ah) hb);have n2_:=aM (Kd.S_elder' (by have X_:=ag.out;exact TS) (Kd.R_base ah) hb);have n3_:=aM (Kd.R_lower (Kd.R_new' (Kd.R_new' ah (Kd.R_lt (TRf af))) (Kd.R_lt (TRf ae))) (below_size TB));have n4_:=mB ad hb;have n5_:=mB ab hb;have n6_:=mB ac hb;have n7_:=mB aa hb;have n8_:=bS HB hb;clear af;clear ae;clear ag;clear ad;clear ab;clear ac;clear aa;clear HB;have af:=n0_;have ae:=n1_;have ag:=n2_;have aR:=n3_;have ad:=n4_;have ab:=n5_;have ac:=n6_;have aa:=n7_;have HB:=n8_;clear n0_ n1_ n2_ n3_ n4_ n5_ n6_ n7_ n8_;(try clear hb);(try clear hk);(try clear ah);obtain⟨Aoq4,coq4,eoq4⟩:=Kd.R_slice aR.out;(first|subst eoq4|(injection eoq4 with f1_ f2_ f3_;have f4_:=f1_.symm;have f5_:=f3_.symm;clear f1_ f2_ f3_;subst f4_;subst f5_));refine hK.out _ _ (cJ6 aa.out (cK6 ab.out)) (fun hHeld=>?_);clear hK K;refine nR ?_;refine poq 4 13 (fun K hK=>?_);refine value_ (w1:=?_) (v:=?_) (by rfl) rfl ?_ ?_;rotate_left 2
 ·go_simp
  constructor
  ·rfl
  ·rfl
 refine hK.out _ _ ⟨(blk_cell (blk_alloc aa.out _) 0).trans rfl,(blk_cell (blk_alloc aa.out _) 1).trans rfl,(blk_cell (blk_alloc aa.out _) 2).trans rfl,(blk_cell (blk_alloc aa.out _) 3).trans rfl,(blk_cell (blk_alloc aa.out _) 4).trans rfl,(blk_cell (blk_alloc aa.out _) 5).trans rfl,(blk_cell (blk_alloc ab.out _) 0).trans rfl,(blk_cell (blk_alloc ab.out _) 1).trans rfl,(blk_cell (blk_alloc ab.out _) 2).trans rfl,(blk_cell (blk_alloc ab.out _) 3).trans rfl,(blk_cell (blk_alloc ab.out _) 4).trans rfl,(blk_cell (blk_alloc ab.out _) 5).trans rfl⟩ (fun hHeld=>?_);clear hK K;refine nR ?_;refine poq 5 14 (fun K hK=>?_);refine Kd.S_append_step k91 (w0:=w) w.heap.size (by rfl) (.tmp 10) (.tmp 13) 37 91 (.agg #[(.int .i64 0),(.int .i64 0),(.slice none 0 0),(.int .i64 0),(.int .i64 0),(.int .i64 0)]) 64 rfl Tryz.underlying37 info91 rfl (by decide) (by omega) (.slice Aoq3 tq6.length coq3) tq6 (⟨tq7,tq8,tq9,(⟨aJ,aK,aN⟩:S36)⟩:S91) [.int .i64 tq7,.int .i64 tq8,.slice Aoq4 tq9.length coq4,.int .i64 aJ,.int .i64 aK,.int .i64 aN] (fun k_=>some k_≠(.slice Aoq1 tq1.length coq1:Value).ownBlock∧some k_≠(.slice Aoq2 tq2.length coq2:Value).ownBlock∧k_≠gbq2) (fun k_=>some k_=(.slice Aoq4 tq9.length coq4:Value).ownBlock) rfl rfl ?aP (fun k_ hk_=>((Kd.R_mono (ok':=fun k_=>((fun k_=>some k_≠(.slice Aoq1 tq1.length coq1:Value).ownBlock∧some k_≠(.slice Aoq2 tq2.length coq2:Value).ownBlock∧k_≠gbq2)) k_∧some k_≠(.slice Aoq3 tq6.length coq3:Value).ownBlock) (Kd.R_types (Kd.R_apart' (aR.out) (Kd.S_typed ag.out) (by decide)) ab.out (by decide)) (fun k_ hk=>⟨⟨hk.1.1.1.2,⟨hk.1.1.2,hk.2⟩⟩,hk.1.2⟩))).1 k_ hk_.symm) ?aF ?aO ?aB ?aS ?aL ?_;(case aP=>exact k91_mkM _ _ _ (⟨tq7,tq8,tq9,(⟨aJ,aK,aN⟩:S36)⟩:S91) (Kd.R_mono (Kd.R_tight rfl (Kd.R_mono (ok':=fun k_=>((fun k_=>some k_≠(.slice Aoq1 tq1.length coq1:Value).ownBlock∧some k_≠(.slice Aoq2 tq2.length coq2:Value).ownBlock∧k_≠gbq2)) k_∧some k_≠(.slice Aoq3 tq6.length coq3:Value).ownBlock) (Kd.R_types (Kd.R_apart' (aR.out) (Kd.S_typed ag.out) (by decide)) ab.out (by decide)) (fun k_ hk=>⟨⟨hk.1.1.1.2,⟨hk.1.1.2,hk.2⟩⟩,hk.1.2⟩))) (fun _ h_=>h_)));(case aB=>exact TB);(case aF=>exact(fun k_ hk=>⟨Kd.fresh' (Kd.R_lt (TRf af)) k_ hk,Kd.fresh' (Kd.R_lt (TRf ae)) k_ hk,Kd.freshB (g:=gbq2) (o:=.cells #[.int .i64 am,.int .i64 ao,.slice ax ai.length aw,.int .i64 an,.int .i64 aq,.int .i64 ap] 91 (0,0)) TK k_ hk⟩));(case aO=>exact(by (with_reducible repeat (first|apply Kd.S_alloc|apply Kd.S_drewN|apply Kd.S_drew));exact Kd.S_mono ag.out (fun k_ hk=>⟨⟨hk.1.1,⟨hk.1.2.1,hk.1.2.2⟩⟩,fun e_=>hk.2 e_⟩)));(case aS=>exact(below_size TB));(case aL=>have:=LMcq1.out;omega);intro vq5 wq9 ho hb hg hat;rw[← Nyq1.out] at ho;have n0_:=aM (blk_grown (g:=gbq1) (o:=.cells #[.slice aA ak.length aE,.slice aD al.length aH,.int .i64 ar,.int .i64 av,.int .i64 au,.slice aG aj.length aC] 39 (0,0)) TK hg (Kd.S_ne ag.out ad.out (by decide)));have n1_:=aM (blk_grown (g:=gbq2) (o:=.cells #[.int .i64 am,.int .i64 ao,.slice ax ai.length aw,.int .i64 an,.int .i64 aq,.int .i64 ap] 91 (0,0)) TK hg (Kd.S_away ag.out (fun _ hk=>hk.1.2.2)));have n2_:=aM (blk_grown (g:=gbq3) (o:=.cells #[.slice none 0 0,.slice none 0 0,.int .i64 0,.int .i64 0,.int .i64 0,.slice none 0 0] 39 (0,0)) TK hg (Kd.S_ne ag.out ac.out (by decide)));have n3_:=aM (Kd.R_over' (TRf af) (Kd.S_typed (by have X_:=ag.out;exact TS)) (by decide) hg);have n4_:=aM (Kd.R_over' (TRf ae) (Kd.S_typed (by have X_:=ag.out;exact TS)) (by decide) hg);have n5_:=aM (blk_grown (g:=gbq4) (o:=.cells #[.slice Aoq1 tq1.length coq1,.slice Aoq2 tq2.length coq2,.int .i64 tq3,.int .i64 tq4,.int .i64 tq5,.slice Aoq3 tq6.length coq3] 39 (0,0)) TK hg (Kd.S_ne ag.out aa.out (by decide)));have n6_:=aM (hb);have n7_:=aM (ho);clear ad;clear ab;clear ac;clear af;clear ae;clear aa;clear HB;clear ag;clear aR;have ad:=n0_;have ab:=n1_;have ac:=n2_;have af:=n3_;have ae:=n4_;have aa:=n5_;have HB:=n6_;have ay:=n7_;clear n0_ n1_ n2_ n3_ n4_ n5_ n6_ n7_;clear ho hb hg hat;obtain⟨aU,aT,eoq5⟩:=Kd.S_slice ay.out;(first|subst eoq5|(injection eoq5 with f1_ f2_ f3_;have f4_:=f1_.symm;have f5_:=f3_.symm;clear f1_ f2_ f3_;subst f4_;subst f5_));refine hK.out _ _ (cJ6 aa.out (cK6 ab.out)) (fun hHeld=>?_);clear hK K;refine nR ?_;refine ppq 6 15 ?_;refine pL 7 none (fun K hK=>?_);have hsq1:wq9.cell? ⟨gbq4,5,none⟩=some (.slice Aoq3 tq6.length coq3):=bC aa 5;have hfsq1:=blk_frozen aa.out 5;have hnsq1:=NBq7.out;have hnsq2:=NBq9.out;have hnsq3:=NBq11.out;have hmsq1:=NBq8.out;have hmsq2:=NBq10.out;have hmsq3:=NBq12.out;refine skip_ (w1:=?_) (by rfl) rfl ?_ ?_;rotate_left
 ·go_simp;rfl
 refine hK.out _ _ ?_;clear hK K;refine done_ (done_of HT_.out (by kernel_rfl)) ?_;obtain⟨hczq13,hczq14,hczq15,hczq16,hczq17,hczq18⟩:=cz6 aa.out;obtain⟨hfzq13,hfzq14,hfzq15,hfzq16,hfzq17,hfzq18⟩:=fz6 aa.out;try go_wp2_with (first|(refine g_C 53 ?_;refine gL (some 17) Tryz.func53 #[.agg #[.slice Aoq1 tq1.length coq1,.slice Aoq2 tq2.length coq2,.int .i64 tq3,.int .i64 tq4,.int .i64 tq5,.slice aU aQ.length aT]] ?_;(with_reducible refine(spec_DiskOk.calls ?side1 ?side2 ?side3 ?side4 ?side5 ?side6 Aq3.out).mono ?_);(case side1=>exact(Kd.R_reads' (TY af aa)).2.2);(case side2=>exact(Kd.R_reads' af.out).2.1);(case side3=>exact(Kd.R_reads' (TY ae aa)).2.2);(case side4=>exact(Kd.R_reads' ae.out).2.1);(case side5=>refine(Kd.S_reads' (e:=91) (base:=w.heap.size) (ok:=fun k_=>(some k_≠(.slice Aoq1 tq1.length coq1:Value).ownBlock∧(some k_≠(.slice Aoq2 tq2.length coq2:Value).ownBlock∧k_≠gbq2))) (n:=aQ.length) (c:=aT) ?_).2.2;exact(by exact Zq13_0));(case side6=>exact(Kd.S_reads' ay.out).2.1);rintro e wq10 ⟨rfl,hb⟩;refine⟨_,rfl,?_⟩;replace af:=aM (Kd.R_below (TY af aa) hb);replace ae:=aM (Kd.R_below (TY ae aa) hb);replace ay:=aM (Kd.S_below (by exact Zq13_0) hb);replace ad:=mB ad hb;replace ab:=mB ab hb;replace ac:=mB ac hb;replace aa:=aM (blk_below (g:=gbq4) (o:=.cells #[.slice Aoq1 tq1.length coq1,.slice Aoq2 tq2.length coq2,.int .i64 tq3,.int .i64 tq4,.int .i64 tq5,.slice aU aQ.length aT] 39 (0,0)) (blk_put (cs:=#[.slice Aoq1 tq1.length coq1,.slice Aoq2 tq2.length coq2,.int .i64 tq3,.int .i64 tq4,.int .i64 tq5,.slice Aoq3 tq6.length coq3]) (TZ aa) 5 _ rfl) hb);replace HB:=bS HB hb;clear hb)|(refine g_D 18 ?_;generalize hG_:wpList _ _ _ _ _ _=G_))
 subst hG_
 by_cases cq2:t252=true
 ·subst cq2;replace H:=ifT H;simp only[Option.some.injEq,Prod.mk.injEq] at H;obtain⟨rfl,rfl,rfl,rfl,rfl,rfl,rfl⟩:=H;obtain⟨hnbq6,hncq6⟩:=oB NBq8;obtain⟨hnbq7,hncq7⟩:=oB NBq10;obtain⟨hnbq8,hncq8⟩:=oB NBq12;obtain⟨bg,bt,bl,bw,bk,bf⟩:=cz6 aa.out;obtain⟨bG,br,bh,bs,bv,bp⟩:=fz6 aa.out;obtain⟨hnbq9,hncq9⟩:=oB NBq4;obtain⟨bq,bm⟩:=oB NBq6;obtain⟨bA,be,bx,bj,bi,bz⟩:=cz6 ac.out;obtain⟨bH,bu,bn,bB,bF,bo⟩:=fz6 ac.out;go_wp2
  refine bodyPost_ret (results_ct rfl _ _ gbq3 39 #[.slice Aoq1 tq1.length coq1,.slice Aoq2 tq2.length coq2,.int .i64 tq3,.int .i64 tq4,.int .i64 tq5,.slice aU aQ.length aT] (0,0) _ rfl (blk_put (blk_put (blk_put (blk_put (blk_put (blk_put (cs:=#[.slice none 0 0,.slice none 0 0,.int .i64 0,.int .i64 0,.int .i64 0,.slice none 0 0]) (TZ ac) 0 _ rfl) 1 _ rfl) 2 _ rfl) 3 _ rfl) 4 _ rfl) 5 _ rfl) Tryz.underlying39 rfl (by kernel_rfl)) rfl ?_;exact⟨_,_,_,TE,by (with_reducible repeat (first|apply Kd.R_alloc|apply Kd.R_drewN|apply Kd.R_drew));exact Kd.R_mono (RK1 (Kd.R_types af.out ac.out (by decide))) (fun _ hk=>hk.1.1),by (with_reducible repeat (first|apply Kd.R_alloc|apply Kd.R_drewN|apply Kd.R_drew));exact Kd.R_mono (RK1 (Kd.R_types ae.out ac.out (by decide))) (fun _ hk=>hk.1.1),by (with_reducible repeat (first|apply Kd.S_alloc|apply Kd.S_drewN|apply Kd.S_drew));exact Kd.S_mono (SK1 (Kd.S_types ay.out ac.out (by decide))) (fun _ hk=>⟨hk.1.1,hk.1.2.1⟩),TB⟩
 ·replace cq2:=b_F cq2;subst cq2;replace H:=ifF H;replace H:=bE H;obtain⟨⟨tq13,tq14,tq15,tq16,tq17,tq18⟩,Aq4,H⟩:=H;dsimp only at H;simp only[Option.some.injEq,Prod.mk.injEq] at H;obtain⟨rfl,rfl,rfl,rfl,rfl,rfl,rfl⟩:=H;obtain⟨hnbq6,hncq6⟩:=oB NBq1;obtain⟨hnbq7,hncq7⟩:=oB NBq3;obtain⟨hnbq8,hncq8⟩:=oB NBq7;obtain⟨bg,bt,bl,bw,bk,bf⟩:=cz6 ad.out;obtain⟨bG,br,bh,bs,bv,bp⟩:=fz6 ad.out;go_wp2_with (first|(refine g_C 30 ?_;refine gL (some 20) Tryz.func30 #[.agg #[.slice aA ak.length aE,.slice aD al.length aH,.int .i64 ar,.int .i64 av,.int .i64 au,.slice aG aj.length aC]] ?_;(with_reducible refine(spec_l9Copy.calls ?side1 ?side2 ?side3 ?side4 ?side5 ?side6 Aq4.out).mono ?_);(case side1=>repeat (first|exact(Kd.C_below HRq1.out TB)|(with_reducible refine Kd.C_alloc ?_ _)|(with_reducible refine Kd.C_drewN ?_ _)|(with_reducible refine Kd.C_drew ?_)));(case side2=>exact HCq1.out);(case side3=>repeat (first|exact(Kd.C_below HRq2.out TB)|(with_reducible refine Kd.C_alloc ?_ _)|(with_reducible refine Kd.C_drewN ?_ _)|(with_reducible refine Kd.C_drew ?_)));(case side4=>exact HCq2.out);(case side5=>repeat (first|exact(Kd.C_below HRq3.out TB)|(with_reducible refine Kd.C_alloc ?_ _)|(with_reducible refine Kd.C_drewN ?_ _)|(with_reducible refine Kd.C_drew ?_)));(case side6=>exact HCq3.out);rintro e wq11 ⟨vq6,vq7,vq8,rfl,ah,az,aI,hb⟩;refine⟨_,rfl,?_⟩;have HOq6:=aM (Kd.R_lower (Kd.R_new' (Kd.R_new' ah (Kd.R_lt (TRf af))) (Kd.R_lt (TRf ae))) (below_size TB));have HOq7:=aM (Kd.R_lower (Kd.R_new' (Kd.R_new' az (Kd.R_lt (TRf af))) (Kd.R_lt (TRf ae))) (below_size TB));have HOq8:=aM (Kd.S_lower (Kd.S_newB (Kd.S_new' (Kd.S_new' (Kd.S_new' aI (Kd.R_lt (TRf af))) (Kd.R_lt (TRf ae))) (Kd.S_lt (by have X_:=ay.out;exact TS))) (g:=gbq2) (o:=.cells #[.int .i64 am,.int .i64 ao,.slice ax ai.length aw,.int .i64 an,.int .i64 aq,.int .i64 ap] 91 (0,0)) TK) (below_size TB));replace af:=aM (Kd.R_mono (Kd.R_told (Kd.R_told (Kd.R_old (TRf af) hb) (Kd.R_base ah)) (Kd.R_base az)) (fun _ h_=>h_.1));replace ae:=aM (Kd.R_mono (Kd.R_told (Kd.R_told (Kd.R_old (TRf ae) hb) (Kd.R_base ah)) (Kd.R_base az)) (fun _ h_=>h_.1));replace ay:=aM (Kd.S_mono (Kd.S_told (Kd.S_told (Kd.S_told (Kd.S_old (by have X_:=ay.out;exact TS) hb) (Kd.R_base ah)) (Kd.R_base az)) (Kd.S_base aI)) (fun _ h_=>h_.1));replace ad:=mB ad hb;replace ab:=mB ab hb;replace ac:=mB ac hb;replace aa:=mB aa hb;replace HB:=bS HB hb;clear ah az aI hb;obtain⟨Aoq6,coq6,eoq6⟩:=Kd.R_slice HOq6.out;subst eoq6;obtain⟨hnbq9,hncq9⟩:=oB NBq6;obtain⟨bq,bm⟩:=oB NBq11;obtain⟨bA,be,bx,bj,bi,bz⟩:=cz6 ac.out;obtain⟨bH,bu,bn,bB,bF,bo⟩:=fz6 ac.out;obtain⟨Aoq7,coq7,eoq7⟩:=Kd.R_slice HOq7.out;subst eoq7;obtain⟨Aoq8,coq8,eoq8⟩:=Kd.S_slice HOq8.out;subst eoq8))
  refine bodyPost_ret (results_ct rfl _ _ gbq3 39 #[.slice Aoq6 tq13.length coq6,.slice Aoq7 tq14.length coq7,.int .i64 tq15,.int .i64 tq16,.int .i64 tq17,.slice Aoq8 tq18.length coq8] (0,0) _ rfl (blk_put (blk_put (blk_put (blk_put (blk_put (blk_put (cs:=#[.slice none 0 0,.slice none 0 0,.int .i64 0,.int .i64 0,.int .i64 0,.slice none 0 0]) (TZ ac) 0 _ rfl) 1 _ rfl) 2 _ rfl) 3 _ rfl) 4 _ rfl) 5 _ rfl) Tryz.underlying39 rfl (by kernel_rfl)) rfl ?_;exact⟨_,_,_,TE,by (with_reducible repeat (first|apply Kd.R_alloc|apply Kd.R_drewN|apply Kd.R_drew));exact Kd.R_mono (RK1 (Kd.R_types HOq6.out ac.out (by decide))) (fun _ hk=>hk.1.1.1),by (with_reducible repeat (first|apply Kd.R_alloc|apply Kd.R_drewN|apply Kd.R_drew));exact Kd.R_mono (RK1 (Kd.R_types HOq7.out ac.out (by decide))) (fun _ hk=>hk.1.1.1),by (with_reducible repeat (first|apply Kd.S_alloc|apply Kd.S_drewN|apply Kd.S_drew));exact Kd.S_mono (SK1 (Kd.S_types HOq8.out ac.out (by decide))) (fun _ hk=>⟨hk.1.1.1.1.1.1,hk.1.1.1.1.1.2⟩),TB⟩
theorem Zq14_0 {p:Prop}(h:p:=by repeat (first|exact(Kd.C_below HRq1.out TB)|(with_reducible refine Kd.C_alloc ?_ _)|(with_reducible refine Kd.C_drewN ?_ _)|(with_reducible refine Kd.C_drew ?_))):p:=h
theorem Zq14_1 {p:Prop}(h:p:=by repeat (first|exact(Kd.C_below HRq2.out TB)|(with_reducible refine Kd.C_alloc ?_ _)|(with_reducible refine Kd.C_drewN ?_ _)|(with_reducible refine Kd.C_drew ?_))):p:=h
theorem Zq14_2 {p:Prop}(h:p:=by repeat (first|exact(Kd.C_below HRq3.out TB)|(with_reducible refine Kd.C_alloc ?_ _)|(with_reducible refine Kd.C_drewN ?_ _)|(with_reducible refine Kd.C_drew ?_))):p:=h
def spec_PutBytes.f (k:Nat)(c:List Int)(d:List Int)(e:Int)(f:Int)(g:Int)(h:List (S91))(j:Int)(l:Int)(m:List Int):Option (List Int×List Int×Int×Int×Int×(List (S91))×Bool):=(spec_l1In.f j 0 1).bind fun i=>(if i=true then ((spec_l9Add.f k c d e f g h j l m 0 0 0).bind fun a=>(some (a.1,a.2.1,a.2.2.1,a.2.2.2.1,a.2.2.2.2.1,a.2.2.2.2.2.1,a.2.2.2.2.2.2))) else ((spec_l9Copy.f k c d e f g h).bind fun b=>(some (b.1,b.2.1,b.2.2.1,b.2.2.2.1,b.2.2.2.2.1,b.2.2.2.2.2,false))))
theorem spec_PutBytes.mono :∀a b c d e f g h i k,LeO (spec_PutBytes.f k a b c d e f g h i) (spec_PutBytes.f (k+1) a b c d e f g h i):=by
  intro a0 a1 a2 a3 a4 a5 a6 a7 a8 k;have m0_:=@spec_l9Add.mono;have m1_:=@spec_l9Copy.mono;unfold spec_PutBytes.f;exact LM
theorem Yq14_0 {p:Prop}(h:p:=by
 refine bodyPost_ret (results_ct rfl _ _ gbq2 39 #[.slice Aoq1 tq1.length coq1,.slice Aoq2 tq2.length coq2,.int .i64 tq3,.int .i64 tq4,.int .i64 tq5,.slice Aoq3 tq6.length coq3] (0,0) _ rfl (blk_put (blk_put (blk_put (blk_put (blk_put (blk_put (cs:=#[.slice none 0 0,.slice none 0 0,.int .i64 0,.int .i64 0,.int .i64 0,.slice none 0 0]) (TZ BKq2) 0 _ rfl) 1 _ rfl) 2 _ rfl) 3 _ rfl) 4 _ rfl) 5 _ rfl) Tryz.underlying39 rfl (by kernel_rfl)) rfl ?_;exact⟨_,_,_,TE,by (with_reducible repeat (first|apply Kd.R_alloc|apply Kd.R_drewN|apply Kd.R_drew));exact Kd.R_mono (RK1 (Kd.R_types HOq1.out BKq2.out (by decide))) (fun _ hk=>hk.1),by (with_reducible repeat (first|apply Kd.R_alloc|apply Kd.R_drewN|apply Kd.R_drew));exact Kd.R_mono (RK1 (Kd.R_types HOq2.out BKq2.out (by decide))) (fun _ hk=>hk.1),by (with_reducible repeat (first|apply Kd.S_alloc|apply Kd.S_drewN|apply Kd.S_drew));exact Kd.S_mono (SK1 (Kd.S_types HOq3.out BKq2.out (by decide))) (fun _ hk=>⟨hk.1.1,hk.1.2⟩),TB⟩):p:=h
theorem spec_PutBytes.calls {k:Nat}{A0_0:Option Addr}{c0_0:Nat}{l0_0:List Int}{A0_1:Option Addr}{c0_1:Nat}{l0_1:List Int}{a0_2:Int}{a0_3:Int}{a0_4:Int}{A0_5:Option Addr}{c0_5:Nat}{l0_5:List (S91)}{a1:Int}{a2:Int}{A3:Option Addr}{c3:Nat}{l3:List Int}{r1:List Int}{r2:List Int}{r3:Int}{r4:Int}{r5:Int}{r6:List (S91)}{r7:Bool}{w:World}(hr0_0:Kd.C (Kd.int .u8) w A0_0 l0_0.length l0_0)(hc0_0:l0_0.length≤c0_0)(hr0_1:Kd.C (Kd.int .u8) w A0_1 l0_1.length l0_1)(hc0_1:l0_1.length≤c0_1)(hr0_5:Kd.C k91 w A0_5 l0_5.length l0_5)(hc0_5:l0_5.length≤c0_5)(hr3:Kd.C (Kd.int .u8) w A3 l3.length l3)(hc3:l3.length≤c3)(h:spec_PutBytes.f k l0_0 l0_1 a0_2 a0_3 a0_4 l0_5 a1 a2 l3=some (r1,r2,r3,r4,r5,r6,r7)):
    Calls Tryz.prog 58 #[.agg #[.slice A0_0 l0_0.length c0_0,.slice A0_1 l0_1.length c0_1,.int .i64 a0_2,.int .i64 a0_3,.int .i64 a0_4,.slice A0_5 l0_5.length c0_5],.int .i64 a1,.int .i64 a2,.slice A3 l3.length c3] w fun e w'=>∃v0_ v1_ v5_:Value,e=.returned (.tuple #[.agg #[v0_,v1_,.int .i64 r3,.int .i64 r4,.int .i64 r5,v5_],.bool r7])∧Kd.R (Kd.int .u8) 5 w' w.heap.size (fun k_=>some k_≠(v1_:Value).ownBlock) v0_ r1∧Kd.R (Kd.int .u8) 5 w' w.heap.size (fun k_=>some k_≠(v0_:Value).ownBlock) v1_ r2∧Kd.S k91 91 w' w.heap.size (fun k_=>some k_≠(v0_:Value).ownBlock∧some k_≠(v1_:Value).ownBlock) v5_ r6∧Below w.heap.size w w':=by
 have huq1:=Tryz.underlying39
 have huq2:=Tryz.underlying91
 have HRq1:=aM hr0_0
 have HCq1:=aM hc0_0
 clear hr0_0 hc0_0
 have HRq2:=aM hr0_1
 have HCq2:=aM hc0_1
 clear hr0_1 hc0_1
 have HRq3:=aM hr0_5
 have HCq3:=aM hc0_5
 clear hr0_5 hc0_5
 have HRq4:=aM hr3
 have HCq4:=aM hc3
 clear hr3 hc3
 have HB:=aM (Below.refl w.heap.size w)
 have H:=h
 clear h
 unfold spec_PutBytes.f at H
 replace H:=bE H
 obtain⟨t267,Aq1,H⟩:=H
 go_enter Tryz.func58,Tryz.ntmps58
 go_wp2_with (first|(refine g_D 4 ?_;refine gBx 4 #[.slice A0_0 l0_0.length c0_0,.slice A0_1 l0_1.length c0_1,.int .i64 a0_2,.int .i64 a0_3,.int .i64 a0_4,.slice A0_5 l0_5.length c0_5] 39 ?_;intro gbq1 hg wq1 hbox hb;have BKq1:=aM (hbox);have GWq1:=gW HB hg;have GEq1:=gW HB hg;replace HB:=bS HB hb;clear hb hbox hg)|(refine g_D 8 ?_;refine gBx 8 #[.slice none 0 0,.slice none 0 0,.int .i64 0,.int .i64 0,.int .i64 0,.slice none 0 0] 39 ?_;intro gbq2 hg wq2 hbox hb;have BKq2:=aM (hbox);have GWq2:=gW HB hg;have GEq2:=gW HB hg;obtain⟨NBq1,NBq2⟩:=nB BKq1 hg;replace BKq1:=mB BKq1 hb;replace HB:=bS HB hb;clear hb hbox hg)|(refine g_C 88 ?_;refine gL (some 11) Tryz.func88 #[.int .i64 a1,.int .i64 0,.int .i64 1] ?_;(with_reducible refine(spec_l1In.calls Aq1.out).mono ?_);rintro e w' ⟨rfl,⟨nd,rfl⟩⟩;refine⟨_,rfl,?_⟩)|(refine g_D 12 ?_;generalize hG_:wpList _ _ _ _ _ _=G_))
 subst hG_
 obtain⟨hnbq1,hncq1⟩:=oB NBq1
 obtain⟨hczq1,hczq2,hczq3,hczq4,hczq5,hczq6⟩:=cz6 BKq1.out
 obtain⟨hfzq1,hfzq2,hfzq3,hfzq4,hfzq5,hfzq6⟩:=fz6 BKq1.out
 by_cases cq1:t267=true
 ·subst cq1
  replace H:=ifT H
  replace H:=bE H
  obtain⟨⟨tq1,tq2,tq3,tq4,tq5,tq6,tq7⟩,Aq2,H⟩:=H
  dsimp only at H
  simp only[Option.some.injEq,Prod.mk.injEq] at H
  obtain⟨rfl,rfl,rfl,rfl,rfl,rfl,rfl⟩:=H
  go_wp2_with (first|(refine g_C 60 ?_;refine gL (some 20) Tryz.func60 #[.agg #[.slice A0_0 l0_0.length c0_0,.slice A0_1 l0_1.length c0_1,.int .i64 a0_2,.int .i64 a0_3,.int .i64 a0_4,.slice A0_5 l0_5.length c0_5],.agg #[.int .i64 a1,.int .i64 a2,.slice A3 l3.length c3,.int .i64 0,.int .i64 0,.int .i64 0]] ?_;(with_reducible refine(spec_l9Add.calls ?side1 ?side2 ?side3 ?side4 ?side5 ?side6 ?side7 ?side8 Aq2.out).mono ?_);(case side1=>exact Zq14_0);(case side2=>exact HCq1.out);(case side3=>exact Zq14_1);(case side4=>exact HCq2.out);(case side5=>exact Zq14_2);(case side6=>exact HCq3.out);(case side7=>repeat (first|exact(Kd.C_below HRq4.out TB)|(with_reducible refine Kd.C_alloc ?_ _)|(with_reducible refine Kd.C_drewN ?_ _)|(with_reducible refine Kd.C_drew ?_)));(case side8=>exact HCq4.out);rintro e wq3 ⟨vq1,vq2,vq3,rfl,hoq1,hoq2,hoq3,hb⟩;refine⟨_,rfl,?_⟩;have HOq1:=aM (Kd.R_lower hoq1 (below_size TB));have HOq2:=aM (Kd.R_lower hoq2 (below_size TB));have HOq3:=aM (Kd.S_lower hoq3 (below_size TB));replace BKq1:=mB BKq1 hb;replace BKq2:=mB BKq2 hb;replace HB:=bS HB hb;clear hoq1 hoq2 hoq3 hb;obtain⟨Aoq1,coq1,eoq1⟩:=Kd.R_slice HOq1.out;subst eoq1;obtain⟨hczq7,hczq8,hczq9,hczq10,hczq11,hczq12⟩:=cz6 BKq2.out;obtain⟨hfzq7,hfzq8,hfzq9,hfzq10,hfzq11,hfzq12⟩:=fz6 BKq2.out;obtain⟨Aoq2,coq2,eoq2⟩:=Kd.R_slice HOq2.out;subst eoq2;obtain⟨Aoq3,coq3,eoq3⟩:=Kd.S_slice HOq3.out;subst eoq3))
  exact Yq14_0
 ·replace cq1:=b_F cq1
  subst cq1
  replace H:=ifF H
  replace H:=bE H
  obtain⟨⟨tq1,tq2,tq3,tq4,tq5,tq6⟩,Aq2,H⟩:=H
  dsimp only at H
  simp only[Option.some.injEq,Prod.mk.injEq] at H
  obtain⟨rfl,rfl,rfl,rfl,rfl,rfl,rfl⟩:=H
  go_wp2_with (first|(refine g_C 30 ?_;refine gL (some 14) Tryz.func30 #[.agg #[.slice A0_0 l0_0.length c0_0,.slice A0_1 l0_1.length c0_1,.int .i64 a0_2,.int .i64 a0_3,.int .i64 a0_4,.slice A0_5 l0_5.length c0_5]] ?_;(with_reducible refine(spec_l9Copy.calls ?side1 ?side2 ?side3 ?side4 ?side5 ?side6 Aq2.out).mono ?_);(case side1=>exact Zq14_0);(case side2=>exact HCq1.out);(case side3=>exact Zq14_1);(case side4=>exact HCq2.out);(case side5=>exact Zq14_2);(case side6=>exact HCq3.out);rintro e wq3 ⟨vq1,vq2,vq3,rfl,hoq1,hoq2,hoq3,hb⟩;refine⟨_,rfl,?_⟩;have HOq1:=aM (Kd.R_lower hoq1 (below_size TB));have HOq2:=aM (Kd.R_lower hoq2 (below_size TB));have HOq3:=aM (Kd.S_lower hoq3 (below_size TB));replace BKq1:=mB BKq1 hb;replace BKq2:=mB BKq2 hb;replace HB:=bS HB hb;clear hoq1 hoq2 hoq3 hb;obtain⟨Aoq1,coq1,eoq1⟩:=Kd.R_slice HOq1.out;subst eoq1;obtain⟨hczq7,hczq8,hczq9,hczq10,hczq11,hczq12⟩:=cz6 BKq2.out;obtain⟨hfzq7,hfzq8,hfzq9,hfzq10,hfzq11,hfzq12⟩:=fz6 BKq2.out;obtain⟨Aoq2,coq2,eoq2⟩:=Kd.R_slice HOq2.out;subst eoq2;obtain⟨Aoq3,coq3,eoq3⟩:=Kd.S_slice HOq3.out;subst eoq3))
  exact Yq14_0
end Go.Proofs.YtjgmkkogmfogbaaGreat.Q
