/- Functions of the program as plain Lean functions, and that a call of each comes to what its function tells. -/
import Derived.Test.YtjgmkkogmfogbaaGreatQ5
import Derived.Test.YtjgmkkogmfogbaaGreatQ21
set_option maxHeartbeats 40000000
set_option maxRecDepth 100000
namespace Go.Proofs.YtjgmkkogmfogbaaGreat.Q
open Go.RowKit Go.Proofs.YtjgmkkogmfogbaaGreatW.PrintWords Go.Proofs.YtjgmkkogmfogbaaGreatW.PrintLast Go.Proofs.YtjgmkkogmfogbaaGreatW.PrintMore
attribute [local go_sem] min2_int min_two
set_option linter.unusedVariables false
set_option linter.unusedSimpArgs false
theorem Zq43_0 {p:Prop}(h:p:=by repeat (first|(with_reducible first|exact HK.out|apply Kept.alloc|apply Kept.drewN|apply Kept.drew|refine Kept.setCell ?_ (.inr GW1020.out) _|refine Kept.setCell ?_ (.inr GWq1.out) _)|exact HK.out)):p:=h
def laws_markByteS.l0 :Nat→List Int→Int→Int→Option (Int×List Int)
  |0,_,_,_=>none
  |k+1,b,c,a=>if a<(b.length:Int) then (if 0≤a then (laws_markByteS.l0 k (b.set (a:Int).toNat ((c) % 256)) (wrap64 (c+1)) (wrap64 (a+1))) else (none)) else (some (c,b))
def laws_markByteS.f (k:Nat)(a:List Int)(b:Int):Option (Int×List Int):=laws_markByteS.l0 k a b 0
theorem laws_markByteS.mono_l :∀k,(∀a b c,LeO (laws_markByteS.l0 k a b c) (laws_markByteS.l0 (k+1) a b c))
  |0=>fun _ _ _ r h=>by simp [laws_markByteS.l0] at h
  | k+1=>by
    have ih0:=laws_markByteS.mono_l k
    · intro y0 y1 y2
      unfold laws_markByteS.l0
      exact LM
theorem laws_markByteS.mono :∀a b k,LeO (laws_markByteS.f k a b) (laws_markByteS.f (k+1) a b):=by
  intro a0 a1 k;have ih0:=laws_markByteS.mono_l k;unfold laws_markByteS.f;exact LM
theorem laws_markByteS.calls {k:Nat}(P0_:Nat→Prop)(u9000_:Value)(l0:List Int)(a1:Int)(r1:Int)(r2:List Int)(w0 w:World)(hB:Below w0.heap.size w0 w)(ho0:Kd.R (Kd.int .u8) 5 w w0.heap.size P0_ u9000_ l0)(h:laws_markByteS.f k l0 a1=some (r1,r2)):
    Calls Tryz.prog 45 #[u9000_,.int .i64 a1] w fun e w'=>e=.returned (.int .i64 r1)∧Kd.R (Kd.int .u8) 5 w' w0.heap.size (fun k_=>(P0_ k_∨w.heap.size≤k_)) u9000_ r2∧Below w0.heap.size w0 w'∧Kept w w' (fun k_=>P0_ k_):=by
  have HO0:=aM (show Kd.R (Kd.int .u8) 5 w w0.heap.size (fun k_=>(P0_ k_∨w.heap.size≤k_)) u9000_ l0 from Kd.R_mono ho0 (fun k_ hk=>(.inl hk)))
  have HK:=aM (Kept.refl w (fun k_=>P0_ k_))
  have HW0:=aM hB.size
  have HB:=aM hB
  clear hB
  have H:=h
  clear h
  unfold laws_markByteS.f at H
  have H':=aM H
  clear H
  go_enter Tryz.func45,Tryz.ntmps45
  go_wp2
  go_loopg [1,5] k (fun kq v1 v5 w'=>∃(x0_1:List Int) (x1_1:Int) (x5_1:Int),v1=.int .i64 x1_1∧v5=.int .i64 x5_1∧Aside0 (laws_markByteS.l0 kq x0_1 x1_1 x5_1=some (r1,r2))∧Aside0 (kq≤k)∧Aside0 (Kd.R (Kd.int .u8) 5 w' w0.heap.size (fun k_=>(P0_ k_∨w.heap.size≤k_)) u9000_ x0_1)∧Aside0 (Kept w w' (fun k_=>P0_ k_))∧Aside0 (Below w0.heap.size w0 w'))
  case atStart=>exact⟨(l0),(a1),(0),TF,TF,H',⟨Nat.le_refl _⟩,⟨by have X_:=HO0.out;exact TR⟩,⟨by repeat (first|(with_reducible first|exact HK.out|apply Kept.alloc|apply Kept.drewN|apply Kept.drew)|exact HK.out)⟩,⟨TB⟩⟩
  case round=>
    clear H'
    try clear p2
    obtain⟨x0_1,x1_1,x5_1,rfl,rfl,HA,HK1,HO_0,HK,HB⟩:=hrel
    cases gk with
    |zero=>exact absurd HA.out (by simp [laws_markByteS.l0])
    | succ k1=>
      have H:=HA.out
      clear HA
      simp only[laws_markByteS.l0] at H
      by_cases c3:x5_1<(x0_1.length:Int)
      · rw[if_pos c3] at H
        have c3b0:decide (x5_1<(x0_1.length:Int))=true:=decide_eq_true c3
        clear c3
        replace H:=ifN H
        obtain⟨c4,H⟩:=H
        have c4b0:decide (0≤x5_1)=true:=decide_eq_true c4
        clear c4
        obtain⟨y1017,hy1017⟩:∃y_:List Int,y_=(x0_1.set (x5_1:Int).toNat ((x1_1) % 256)):=⟨_,rfl⟩
        rw[← hy1017] at H
        have Ny1017:=aM hy1017
        clear hy1017
        have H':=aM H
        clear H
        obtain⟨Ao6,co6,eo6⟩:=Kd.R_slice HO_0.out
        subst eo6
        have p5:0≤(x5_1:Int):=DT
        have q5:(x5_1:Int)<((x0_1.length:Int):Int):=DT
        obtain⟨go5,co5,eo5,gb5,gl5,cl5,HG5⟩:=Kd.R_form HO_0.out (by omega)
        (first|cases eo5|(injection eo5 with ea_ en_ ec_;(first|subst ea_|(injection ea_ with ea_;subst ea_));subst ec_;clear en_))
        have GB5:=aM gb5
        have GG5:=aM HG5
        clear gb5 gl5 HG5
        have HMgo5:=aM (show(P0_ go5∨w.heap.size≤go5) from(HO_0.out.1 _ rfl))
        obtain⟨hx5_0,hf5_0⟩:=Kd.R_celln 0 HO_0.out (x5_1:Int) p5 q5
        replace p5:=eq_true p5
        replace q5:=eq_true q5
        have HP7:=Kd.R_putg HO_0.out (x5_1:Int) ((x1_1) % 256)
        go_wp2_with (first|((with_reducible refine gate_store (t:=5) (p:=16) rfl ?_);refine store_event (t:=5) (p:=16) (v:=?vo_w8) (w1:=(wr.setCell ⟨go5,(x5_1:Int).toNat,none⟩ (.int .u8 ((x1_1) % 256)))) ?hg ?ho ?hn ?hr ?_;(case ho=>rfl);(case hg=>rfl);(case hn=>rfl);(case hr=>first|(go_simp;done)|(go_simp;rfl));intro w8 hw;have hg:wr.grownBy w8 (some go5):=(by rw[hw];exact HP7.2);have hp_:Kd.R (Kd.int .u8) 5 w8 w0.heap.size (fun k_=>(P0_ k_∨w.heap.size≤k_)) (.slice (some ⟨go5,0,none⟩) x0_1.length co6) y1017:=(by rw[hw,Ny1017.out];exact HP7.1);clear HP7;replace HB:=aM ((by rw[hw];exact below_set (HB.out) GB5.out:Below w0.heap.size w0 w8));replace HK:=aM (Kept.of_grown (S:=(fun k_=>P0_ k_)) hg (by exact Zq43_0) (fun k_ e_=>(HO_0.out.1 k_ e_)));replace HO_0:=aM (hp_);clear hg hw hp_))
        go_roundg k1
        case measure=>have:=HK1.out;omega
        case rel=>exact⟨(y1017),(wrap64 (x1_1+1)),(wrap64 (x5_1+1)),TF,TF,H',⟨by have:=HK1.out;omega⟩,⟨by have X_:=HO_0.out;exact TR⟩,⟨by repeat (first|(with_reducible first|exact HK.out|apply Kept.alloc|apply Kept.drewN|apply Kept.drew)|exact HK.out)⟩,⟨TB⟩⟩
      · rw[if_neg c3] at H
        have c3b0:decide (x5_1<(x0_1.length:Int))=false:=decide_eq_false c3
        clear c3
        simp only[Option.some.injEq,Prod.mk.injEq] at H
        obtain⟨rfl,rfl⟩:=H
        obtain⟨Ao9,co9,eo9⟩:=Kd.R_slice HO_0.out
        subst eo9
        go_wp2
        go_ret
        exact⟨TE,by have X_:=HO_0.out;exact TR,TB,by repeat (first|(with_reducible first|exact HK.out|apply Kept.alloc|apply Kept.drewN|apply Kept.drew)|exact HK.out)⟩
def laws_markPutS.l0 :Nat→List S91→Int→Int→Option (Int×List S91)
  |0,_,_,_=>none
  |k+1,c,d,a=>if a<(c.length:Int) then (if 0≤a then ((laws_markByteS.f k (rd_T91 c a).f2 (wrap64 (wrap64 (d+1)+1))).bind fun b=>(laws_markPutS.l0 k (c.set a.toNat (⟨d,wrap64 (d+1),b.2,⟨b.1,wrap64 (b.1+1),wrap64 (wrap64 (b.1+1)+1)⟩⟩:S91)) (wrap64 (wrap64 (wrap64 (b.1+1)+1)+1)) (wrap64 (a+1)))) else none) else (some (d,c))
def laws_markPutS.f (k:Nat)(a:List S91)(b:Int):Option (Int×List S91):=laws_markPutS.l0 k a b 0
theorem laws_markPutS.mono_l :∀k,(∀a b c,LeO (laws_markPutS.l0 k a b c) (laws_markPutS.l0 (k+1) a b c))
  |0=>fun _ _ _ r h=>by simp [laws_markPutS.l0] at h
  | k+1=>by
    have m0_:=@laws_markByteS.mono
    have ih0:=laws_markPutS.mono_l k
    intro y0 y1 y2
    unfold laws_markPutS.l0
    exact LM
theorem laws_markPutS.mono :∀a b k,LeO (laws_markPutS.f k a b) (laws_markPutS.f (k+1) a b):=by
  intro a0 a1 k;have ih0:=laws_markPutS.mono_l k;exact ih0 _ _ _
theorem laws_markPutS.calls {k:Nat}(ok:Nat→Prop)(v:Value)(l0:List S91)(a1:Int)(r1:Int)(r2:List S91)(w0 w:World)(hB:Below w0.heap.size w0 w)(ho:Kd.S k91 91 w w0.heap.size ok v l0)(h:laws_markPutS.f k l0 a1=some (r1,r2)):
    Calls Tryz.prog 46 #[v,.int .i64 a1] w fun e w'=>e=.returned (.int .i64 r1)∧Kd.S k91 91 w' w0.heap.size ok v r2∧Below w0.heap.size w0 w'∧Kept w w' ok:=by
  have HO:=aM ho
  have HK:=aM (Kept.refl w ok)
  have HB:=aM hB
  have H':=aM (show laws_markPutS.l0 k l0 a1 0=some (r1,r2) from h)
  clear ho hB h
  go_enter Tryz.func46,Tryz.ntmps46
  go_wp2
  go_loopg [1,5] k (fun kq v1 v5 w'=>∃(x0:List S91) (x1:Int) (x5:Int),v1=.int .i64 x1∧v5=.int .i64 x5∧Aside0 (laws_markPutS.l0 kq x0 x1 x5=some (r1,r2))∧Aside0 (kq≤k)∧Aside0 (Kd.S k91 91 w' w0.heap.size ok v x0)∧Aside0 (Kept w w' ok)∧Aside0 (Below w0.heap.size w0 w'))
  case atStart=>exact⟨l0,a1,0,rfl,rfl,H',⟨Nat.le_refl _⟩,HO,HK,HB⟩
  case round=>
    clear H' HO HK HB
    obtain⟨x0,x1,x5,rfl,rfl,HA,HK1,HO,HK,HB⟩:=hrel
    cases gk with
    |zero=>exact absurd HA.out (by simp [laws_markPutS.l0])
    | succ k1=>
      have H:=HA.out
      clear HA
      simp only[laws_markPutS.l0] at H
      by_cases c3:x5<(x0.length:Int)
      · rw[if_pos c3] at H
        replace H:=ifN H
        obtain⟨c4,H⟩:=H
        replace H:=bE H
        obtain⟨⟨b1,b2⟩,A5,H⟩:=H
        dsimp only at A5 H
        have H':=aM H
        clear H
        obtain⟨g,cap,rfl,hgb,hgl,hgc⟩:=Kd.S_form HO.out (by omega)
        obtain⟨oki,c,hcl,hM,hcc,hcf,hoki,hH⟩:=Kd.S_elem HO.out z91 x5 c4 c3
        obtain⟨v2,rfl,hv2⟩:=k91_openM hM
        have c3b:decide (x5<(x0.length:Int))=true:=decide_eq_true c3
        have HV2:=aM hv2
        have HH:=aM hH
        have HOK:=aM hoki
        have HG:=aM hgb
        have C3:=aM (And.intro c4 c3)
        have HOG:=aM ((Kd.S_R HO.out).1 g rfl)
        clear hgc hgl hcl hM hcc hcf hv2 hoki hH HO
        go_wp2_with (first|((with_reducible refine gate_store (t:=3) (p:=16) rfl ?_);refine gStH (d:=k91) 0 [.int .i64 x1] [.int .i64 x1,.int .i64 (x0.getD x5.toNat z91).f1,v2,.int .i64 (x0.getD x5.toNat z91).f3.f0,.int .i64 (x0.getD x5.toNat z91).f3.f1,.int .i64 (x0.getD x5.toNat z91).f3.f2] HH.out C3.out.1 C3.out.2 ?_;intro w1 hw hh;replace HH:=aM hh;replace HV2:=aM (Kd.R_move HV2.out (fun k q=>hw.2.2 k (HOK.out k q).2));replace HB:=aM (hw.below HB.out HG.out);replace HK:=aM (HK.out.then_ hw.kept (fun k e=>.inl (e ▸ HOG.out)));clear hw hh)|((with_reducible refine gate_store (t:=3) (p:=23) rfl ?_);refine gStH (d:=k91) 1 [.int .i64 (wrap64 (x1+1))] [.int .i64 x1,.int .i64 (wrap64 (x1+1)),v2,.int .i64 (x0.getD x5.toNat z91).f3.f0,.int .i64 (x0.getD x5.toNat z91).f3.f1,.int .i64 (x0.getD x5.toNat z91).f3.f2] HH.out C3.out.1 C3.out.2 ?_;intro w1 hw hh;replace HH:=aM hh;replace HV2:=aM (Kd.R_move HV2.out (fun k q=>hw.2.2 k (HOK.out k q).2));replace HB:=aM (hw.below HB.out HG.out);replace HK:=aM (HK.out.then_ hw.kept (fun k e=>.inl (e ▸ HOG.out)));clear hw hh)|(refine g_D 30 ?_;have hc:World.cell? _ ⟨g,x5.toNat * 6+2,none⟩=some v2:=H_cell HH.out C3.out.1 C3.out.2 2 rfl;refine gCl 30 v2 ?_;clear hc)|(refine g_C 45 ?_;refine gL (some 32) Tryz.func45 #[v2,.int .i64 (wrap64 (wrap64 (x1+1)+1))] ?_;refine(laws_markByteS.calls oki v2 (x0.getD x5.toNat z91).f2 _ b1 b2 w0 _ HB.out HV2.out A5.out).mono ?_;rintro e w4 ⟨rfl,hv,hb,hk⟩;refine⟨_,rfl,?_⟩;replace HH:=aM (Kd.H_kept HH.out hk (fun k _ q=>q));replace HK:=aM (HK.out.then_ hk (fun k e=>.inl (HOK.out k e).1));replace HV2:=aM (Kd.R_reok (ok:=oki) rfl hv (fun k e=>HV2.out.1 k e));replace HB:=aM hb;clear hv hb hk)|((with_reducible refine gate_store (t:=3) (p:=38) rfl ?_);refine gStH (d:=k91) 3 [.int .i64 b1] [.int .i64 x1,.int .i64 (wrap64 (x1+1)),v2,.int .i64 b1,.int .i64 (x0.getD x5.toNat z91).f3.f1,.int .i64 (x0.getD x5.toNat z91).f3.f2] HH.out C3.out.1 C3.out.2 ?_;intro w1 hw hh;replace HH:=aM hh;replace HV2:=aM (Kd.R_move HV2.out (fun k q=>hw.2.2 k (HOK.out k q).2));replace HB:=aM (hw.below HB.out HG.out);replace HK:=aM (HK.out.then_ hw.kept (fun k e=>.inl (e ▸ HOG.out)));clear hw hh)|((with_reducible refine gate_store (t:=3) (p:=46) rfl ?_);refine gStH (d:=k91) 4 [.int .i64 (wrap64 (b1+1))] [.int .i64 x1,.int .i64 (wrap64 (x1+1)),v2,.int .i64 b1,.int .i64 (wrap64 (b1+1)),.int .i64 (x0.getD x5.toNat z91).f3.f2] HH.out C3.out.1 C3.out.2 ?_;intro w1 hw hh;replace HH:=aM hh;replace HV2:=aM (Kd.R_move HV2.out (fun k q=>hw.2.2 k (HOK.out k q).2));replace HB:=aM (hw.below HB.out HG.out);replace HK:=aM (HK.out.then_ hw.kept (fun k e=>.inl (e ▸ HOG.out)));clear hw hh)|((with_reducible refine gate_store (t:=3) (p:=54) rfl ?_);refine gStH (d:=k91) 5 [.int .i64 (wrap64 (wrap64 (b1+1)+1))] [.int .i64 x1,.int .i64 (wrap64 (x1+1)),v2,.int .i64 b1,.int .i64 (wrap64 (b1+1)),.int .i64 (wrap64 (wrap64 (b1+1)+1))] HH.out C3.out.1 C3.out.2 ?_;intro w1 hw hh;replace HH:=aM hh;replace HV2:=aM (Kd.R_move HV2.out (fun k q=>hw.2.2 k (HOK.out k q).2));replace HB:=aM (hw.below HB.out HG.out);replace HK:=aM (HK.out.then_ hw.kept (fun k e=>.inl (e ▸ HOG.out)));clear hw hh))
        have hs:=Kd.H_back HH.out (k91_mkM _ _ _ (⟨x1,wrap64 (x1+1),b2,⟨b1,wrap64 (b1+1),wrap64 (wrap64 (b1+1)+1)⟩⟩:S91) HV2.out) (fun _ q=>q)
        go_roundg k1
        case measure=>have:=HK1.out;omega
        case rel=>exact⟨_,_,_,rfl,rfl,H',⟨by have:=HK1.out;omega⟩,⟨hs⟩,HK,HB⟩
      · rw[if_neg c3] at H
        have c3b:decide (x5<(x0.length:Int))=false:=decide_eq_false c3
        clear c3
        simp only[Option.some.injEq,Prod.mk.injEq] at H
        obtain⟨rfl,rfl⟩:=H
        obtain⟨A,c,rfl⟩:=Kd.S_slice HO.out
        go_wp2
        go_ret
        exact⟨rfl,HO.out,HB.out,HK.out⟩
def laws_markDisk.f (k:Nat)(a:List Int)(e:List Int)(g h i:Int)(f:List S91)(j:Int):Option (Int×List Int×List Int×List S91):=(laws_markByteS.f k a j).bind fun b=>((laws_markByteS.f k e b.1).bind fun c=>((laws_markPutS.f k f c.1).bind fun d=>(some (d.1,b.2,c.2,d.2))))
theorem laws_markDisk.mono :∀a b c d e f g k,LeO (laws_markDisk.f k a b c d e f g) (laws_markDisk.f (k+1) a b c d e f g):=by
  intro a0 a1 a2 a3 a4 a5 a6 k;have m0_:=@laws_markByteS.mono;have m1_:=@laws_markPutS.mono;unfold laws_markDisk.f;exact LM
theorem laws_markDisk.calls {k:Nat}(I:Nat→Prop)(A0:Option Addr)(c0:Nat)(l0:List Int)(A1:Option Addr)(c1:Nat)(l1:List Int)(a2 a3 a4:Int)(A5:Option Addr)(c5:Nat)(l5:List S91)(a1:Int)(r1:Int)(r2 r3:List Int)(r4:List S91)(w0 w:World)
    (hB:Below w0.heap.size w0 w) (hD:DskI w w0.heap.size I (.slice A0 l0.length c0) (.slice A1 l1.length c1) (.slice A5 l5.length c5) l0 l1 l5) (h:laws_markDisk.f k l0 l1 a2 a3 a4 l5 a1=some (r1,r2,r3,r4)):
    Calls Tryz.prog 16 #[.agg #[.slice A0 l0.length c0,.slice A1 l1.length c1,.int .i64 a2,.int .i64 a3,.int .i64 a4,.slice A5 l5.length c5],.int .i64 a1] w fun e w'=>e=.returned (.int .i64 r1)∧DskI w' w0.heap.size I (.slice A0 l0.length c0) (.slice A1 l1.length c1) (.slice A5 l5.length c5) r2 r3 r4∧Below w0.heap.size w0 w'∧Kept w w' I:=by
  have hu39:=Tryz.underlying39
  have HB:=aM hB
  have HK:=aM (Kept.refl w I)
  have HA:=aM hD.1
  have HE:=aM hD.2.1
  have HP:=aM hD.2.2
  clear hB hD
  unfold laws_markDisk.f at h
  obtain⟨⟨b1,b2⟩,A1',h⟩:=bE h
  obtain⟨⟨d1,d2⟩,A2',h⟩:=bE h
  obtain⟨⟨e1,e2⟩,A3',h⟩:=bE h
  dsimp only at A1' A2' A3' h
  obtain⟨rfl,rfl,rfl,rfl⟩:e1=r1∧b2=r2∧d2=r3∧e2=r4:=by simpa using h
  clear h
  go_enter Tryz.func16,Tryz.ntmps16
  go_wp2_with (first|(refine g_D 2 ?_;refine gBx 2 #[.slice A0 l0.length c0,.slice A1 l1.length c1,.int .i64 a2,.int .i64 a3,.int .i64 a4,.slice A5 l5.length c5] 39 ?_;intro g2 hg w2 hbox hb;have B2:=aM hbox;replace HA:=aM (Kd.R_below HA.out hb);replace HE:=aM (Kd.R_below HE.out hb);replace HP:=aM (Kd.S_below HP.out hb);replace HK:=aM (HK.out.below hb);replace HB:=aM (below_step HB.out hb);clear hb hbox hg;obtain⟨hcz0,hcz1,hcz2,hcz3,hcz4,hcz5⟩:=cz6 B2.out)|(refine g_C 45 ?_;refine g_D 8 ?_;refine gL (some 8) Tryz.func45 #[.slice A0 l0.length c0,.int .i64 a1] ?_;refine(laws_markByteS.calls (fun j=>some j=(Value.slice A0 l0.length c0).ownBlock) _ l0 a1 b1 b2 w0 _ HB.out (Kd.R_reok rfl HA.out (fun _ e=>e.symm)) A1'.out).mono ?_;rintro e w3 ⟨rfl,hv,hb,hk⟩;refine⟨_,rfl,?_⟩;replace HE:=aM (Kd.R_kept HE.out hk (fun k q e=>q.2 e));replace HP:=aM (Kd.S_kept HP.out hk (fun k q e=>q.2.1 e));replace B2:=aM (blk_kept B2.out hk (Kd.R_ne HA.out B2.out (by decide)));replace HK:=aM (HK.out.then_ hk (fun k e=>.inl (HA.out.1 k e.symm).1));replace HA:=aM (Kd.R_reok (ok:=fun k=>I k∧some k≠(Value.slice A1 l1.length c1).ownBlock) rfl hv (fun k e=>HA.out.1 k e));replace HB:=aM hb;clear hv hb hk hcz0 hcz1 hcz2 hcz3 hcz4 hcz5;obtain⟨hcz0,hcz1,hcz2,hcz3,hcz4,hcz5⟩:=cz6 B2.out)|(refine g_C 45 ?_;refine g_D 12 ?_;refine gL (some 12) Tryz.func45 #[.slice A1 l1.length c1,.int .i64 b1] ?_;refine(laws_markByteS.calls (fun j=>some j=(Value.slice A1 l1.length c1).ownBlock) _ l1 b1 d1 d2 w0 _ HB.out (Kd.R_reok rfl HE.out (fun _ e=>e.symm)) A2'.out).mono ?_;rintro e w3 ⟨rfl,hv,hb,hk⟩;refine⟨_,rfl,?_⟩;replace HA:=aM (Kd.R_kept HA.out hk (fun k q e=>q.2 e));replace HP:=aM (Kd.S_kept HP.out hk (fun k q e=>q.2.2 e));replace B2:=aM (blk_kept B2.out hk (Kd.R_ne HE.out B2.out (by decide)));replace HK:=aM (HK.out.then_ hk (fun k e=>.inl (HE.out.1 k e.symm).1));replace HE:=aM (Kd.R_reok (ok:=fun k=>I k∧some k≠(Value.slice A0 l0.length c0).ownBlock) rfl hv (fun k e=>HE.out.1 k e));replace HB:=aM hb;clear hv hb hk hcz0 hcz1 hcz2 hcz3 hcz4 hcz5;obtain⟨hcz0,hcz1,hcz2,hcz3,hcz4,hcz5⟩:=cz6 B2.out)|(refine g_C 46 ?_;refine gL (some 16) Tryz.func46 #[.slice A5 l5.length c5,.int .i64 d1] ?_;refine(laws_markPutS.calls _ _ l5 d1 e1 e2 w0 _ HB.out HP.out A3'.out).mono ?_;rintro e w3 ⟨rfl,hv,hb,hk⟩;refine⟨_,rfl,?_⟩;replace HA:=aM (R_kept1 rfl HA.out hk (fun k e q=>q.2.1 e.symm));replace HE:=aM (R_kept1 rfl HE.out hk (fun k e q=>q.2.2 e.symm));replace HK:=aM (HK.out.then_ hk (fun k e=>.inl e.1));replace HP:=aM hv;replace HB:=aM hb;clear hv hb hk hcz0 hcz1 hcz2 hcz3 hcz4 hcz5 B2))
  go_ret
  exact⟨rfl,⟨HA.out,HE.out,HP.out⟩,HB.out,HK.out⟩
def laws_markSumS.l0 :Nat→List (S96)→Int→Int→Option (Int×(List (S96)))
  |0,_,_,_=>none
  |k+1,c,d,a=>if a<(c.length:Int) then (if 0≤a then ((some (c.set (a:Int).toNat (⟨d,(rd_T96 c a).f1⟩:S96):List (S96))).bind fun b=>(laws_markSumS.l0 k (b.set (a:Int).toNat (⟨(rd_T96 b a).f0,wrap64 (d+1)⟩:S96)) (wrap64 ((wrap64 (d+1))+1)) (wrap64 (a+1)))) else (none)) else (some (d,c))
def laws_markSumS.f (k:Nat)(a:List (S96))(b:Int):Option (Int×(List (S96))):=laws_markSumS.l0 k a b 0
theorem laws_markSumS.mono_l :∀k,(∀a b c,LeO (laws_markSumS.l0 k a b c) (laws_markSumS.l0 (k+1) a b c))
  |0=>fun _ _ _ r h=>by simp [laws_markSumS.l0] at h
  | k+1=>by
    have ih0:=laws_markSumS.mono_l k
    · intro y0 y1 y2
      unfold laws_markSumS.l0
      exact LM
theorem laws_markSumS.mono :∀a b k,LeO (laws_markSumS.f k a b) (laws_markSumS.f (k+1) a b):=by
  intro a0 a1 k;have ih0:=laws_markSumS.mono_l k;unfold laws_markSumS.f;exact LM
theorem laws_markSumS.calls {k:Nat}(P0_:Nat→Prop)(u9000_:Value)(l0:List (S96))(a1:Int)(r1:Int)(r2:List (S96))(w0 w:World)(hB:Below w0.heap.size w0 w)(ho0:Kd.R k96 96 w w0.heap.size P0_ u9000_ l0)(h:laws_markSumS.f k l0 a1=some (r1,r2)):
    Calls Tryz.prog 47 #[u9000_,.int .i64 a1] w fun e w'=>e=.returned (.int .i64 r1)∧Kd.R k96 96 w' w0.heap.size (fun k_=>(P0_ k_∨w.heap.size≤k_)) u9000_ r2∧Below w0.heap.size w0 w'∧Kept w w' (fun k_=>P0_ k_):=by
  have HO0:=aM (show Kd.R k96 96 w w0.heap.size (fun k_=>(P0_ k_∨w.heap.size≤k_)) u9000_ l0 from Kd.R_mono ho0 (fun k_ hk=>(.inl hk)))
  have HK:=aM (Kept.refl w (fun k_=>P0_ k_))
  have HW0:=aM hB.size
  have HB:=aM hB
  clear hB
  have H:=h
  clear h
  unfold laws_markSumS.f at H
  have H':=aM H
  clear H
  go_enter Tryz.func47,Tryz.ntmps47
  go_wp2
  go_loopg [1,5] k (fun kq v1 v5 w'=>∃(x0_1:List (S96)) (x1_1:Int) (x5_1:Int),v1=.int .i64 x1_1∧v5=.int .i64 x5_1∧Aside0 (laws_markSumS.l0 kq x0_1 x1_1 x5_1=some (r1,r2))∧Aside0 (kq≤k)∧Aside0 (Kd.R k96 96 w' w0.heap.size (fun k_=>(P0_ k_∨w.heap.size≤k_)) u9000_ x0_1)∧Aside0 (Kept w w' (fun k_=>P0_ k_))∧Aside0 (Below w0.heap.size w0 w'))
  case atStart=>exact⟨(l0),(a1),(0),TF,TF,H',⟨Nat.le_refl _⟩,⟨by have X_:=HO0.out;exact TR⟩,⟨by repeat (first|(with_reducible first|exact HK.out|apply Kept.alloc|apply Kept.drewN|apply Kept.drew)|exact HK.out)⟩,⟨TB⟩⟩
  case round=>
    clear H'
    try clear p2
    obtain⟨x0_1,x1_1,x5_1,rfl,rfl,HA,HK1,HO_0,HK,HB⟩:=hrel
    cases gk with
    |zero=>exact absurd HA.out (by simp [laws_markSumS.l0])
    | succ k1=>
      have H:=HA.out
      clear HA
      simp only[laws_markSumS.l0] at H
      by_cases c3:x5_1<(x0_1.length:Int)
      · rw[if_pos c3] at H
        have c3b0:decide (x5_1<(x0_1.length:Int))=true:=decide_eq_true c3
        clear c3
        replace H:=ifN H
        obtain⟨c4,H⟩:=H
        have c4b0:decide (0≤x5_1)=true:=decide_eq_true c4
        clear c4
        obtain⟨y1018,hy1018⟩:∃y_:List (S96),y_=(x0_1.set (x5_1:Int).toNat (⟨x1_1,(rd_T96 x0_1 x5_1).f1⟩:S96)):=⟨_,rfl⟩
        replace H:=someE H hy1018
        have Ny1018:=aM hy1018
        clear hy1018
        obtain⟨y1019,hy1019⟩:∃y_:List (S96),y_=(y1018.set (x5_1:Int).toNat (⟨(rd_T96 y1018 x5_1).f0,wrap64 (x1_1+1)⟩:S96)):=⟨_,rfl⟩
        rw[← hy1019] at H
        have Ny1019:=aM hy1019
        clear hy1019
        have H':=aM H
        clear H
        obtain⟨Ao7,co7,eo7⟩:=Kd.R_slice HO_0.out
        subst eo7
        have p5:0≤(x5_1:Int):=DT
        have q5:(x5_1:Int)<((x0_1.length:Int):Int):=DT
        obtain⟨go5,co5,eo5,gb5,gl5,cl5,HG5⟩:=Kd.R_form HO_0.out (by omega)
        (first|cases eo5|(injection eo5 with ea_ en_ ec_;(first|subst ea_|(injection ea_ with ea_;subst ea_));subst ec_;clear en_))
        have GB5:=aM gb5
        have GG5:=aM HG5
        clear gb5 gl5 HG5
        have HMgo5:=aM (show(P0_ go5∨w.heap.size≤go5) from(HO_0.out.1 _ rfl))
        obtain⟨ce5,hcl5,hM5,hcc5,hfr5⟩:=Kd.R_elem HO_0.out z96 (x5_1:Int) p5 q5
        obtain rfl:=k96_openM hM5
        have hx5_0:wr.cell? ⟨go5,(x5_1:Int).toNat * 2,none⟩=some (.int .i64 ((rd_T96 x0_1 x5_1).f0)):=hcc5 0 _ rfl
        have hx5_1:wr.cell? ⟨go5,(x5_1:Int).toNat * 2+1,none⟩=some (.int .i64 ((rd_T96 x0_1 x5_1).f1)):=hcc5 1 _ rfl
        have hf5_0:wr.frozen? ⟨go5,(x5_1:Int).toNat * 2,none⟩=false:=hfr5 0
        have hf5_1:wr.frozen? ⟨go5,(x5_1:Int).toNat * 2+1,none⟩=false:=hfr5 1
        clear hcl5 hcc5 hfr5 hM5
        replace p5:=eq_true p5
        replace q5:=eq_true q5
        have HX8:=aM (show Kd.R k96 96 wr w0.heap.size (fun k_=>(P0_ k_∨w.heap.size≤k_)) (.slice (some ⟨go5,0,none⟩) x0_1.length co7) x0_1 from(TRf HO_0))
        obtain⟨ce8,hcl8,hM8,hcc8,hfr8⟩:=Kd.R_elem HX8.out z96 (x5_1:Int) DT (by have h_:(x5_1:Int)<((x0_1.length:Int):Int):=DT;first|exact h_|(have e_:=(Kd.R_reads' HO_0.out).1;omega)|simpa using h_)
        obtain rfl:=k96_openM hM8
        have HP8:=Kd.R_seg HX8.out (x5_1:Int) DT (by have h_:(x5_1:Int)<((x0_1.length:Int):Int):=DT;first|exact h_|(have e_:=(Kd.R_reads' HO_0.out).1;omega)|simpa using h_) (seg:=[.int .i64 x1_1]) (j:=0) hcl8 hcc8 (show 1≤2 from by decide) (x':=(⟨x1_1,(rd_T96 x0_1 x5_1).f1⟩:S96)) (k96_mkM _ _ _ (⟨x1_1,(rd_T96 x0_1 x5_1).f1⟩:S96)) (fun _ hk=>hk)
        have hx8_0:=hcc8 0 _ rfl
        (try simp only[show(k96).sz=2 from rfl,Nat.mul_one,Nat.add_zero] at hx8_0)
        have hf8_0:=hfr8 0
        (try simp only[show(k96).sz=2 from rfl,Nat.mul_one,Nat.add_zero] at hf8_0)
        clear hcl8 hcc8 hfr8 hM8
        go_wp2_with (first|((with_reducible refine gate_store (t:=3) (p:=16) rfl ?_);refine store_event (t:=3) (p:=16) (v:=?vo_w9) (w1:=(wr.setCell ⟨go5,(x5_1:Int).toNat * 2,none⟩ (.int .i64 x1_1))) ?hg ?ho ?hn ?hr ?_;(case ho=>rfl);(case hg=>rfl);(case hn=>rfl);(case hr=>first|(go_simp;done)|(go_simp;rfl));intro w9 hw;have hg:wr.grownBy w9 (some go5):=(by rw[hw];exact HP8.2);have hp_:Kd.R k96 96 w9 w0.heap.size (fun k_=>(P0_ k_∨w.heap.size≤k_)) (.slice (some ⟨go5,0,none⟩) x0_1.length co7) y1018:=(by rw[hw,Ny1018.out];exact HP8.1);clear HP8;replace HB:=aM ((by rw[hw];exact below_set (HB.out) GB5.out:Below w0.heap.size w0 w9));replace HK:=aM (Kept.of_grown (S:=(fun k_=>P0_ k_)) hg (by exact Zq43_0) (fun k_ e_=>(HO_0.out.1 k_ e_)));replace HO_0:=aM (hp_);clear hg hw hp_;have p6:0≤(x5_1:Int):=DT;have q6:(x5_1:Int)<((x0_1.length:Int):Int):=DT;obtain⟨ce6,hcl6,hM6,hcc6,hfr6⟩:=Kd.R_elem HO_0.out z96 (x5_1:Int) p6 q6;obtain rfl:=k96_openM hM6;have hx6_0:w9.cell? ⟨go5,(x5_1:Int).toNat * 2,none⟩=some (.int .i64 ((rd_T96 y1018 x5_1).f0)):=hcc6 0 _ rfl;have hx6_1:w9.cell? ⟨go5,(x5_1:Int).toNat * 2+1,none⟩=some (.int .i64 ((rd_T96 y1018 x5_1).f1)):=hcc6 1 _ rfl;have hf6_0:w9.frozen? ⟨go5,(x5_1:Int).toNat * 2,none⟩=false:=hfr6 0;have hf6_1:w9.frozen? ⟨go5,(x5_1:Int).toNat * 2+1,none⟩=false:=hfr6 1;clear hcl6 hcc6 hfr6 hM6;replace p6:=eq_true p6;replace q6:=eq_true q6;have HX10:=aM (show Kd.R k96 96 w9 w0.heap.size (fun k_=>(P0_ k_∨w.heap.size≤k_)) (.slice (some ⟨go5,0,none⟩) x0_1.length co7) y1018 from(TRf HO_0));obtain⟨ce10,hcl10,hM10,hcc10,hfr10⟩:=Kd.R_elem HX10.out z96 (x5_1:Int) DT (by have h_:(x5_1:Int)<((x0_1.length:Int):Int):=DT;first|exact h_|(have e_:=(Kd.R_reads' HO_0.out).1;omega)|simpa using h_);obtain rfl:=k96_openM hM10;have HP10:=Kd.R_seg HX10.out (x5_1:Int) DT (by have h_:(x5_1:Int)<((x0_1.length:Int):Int):=DT;first|exact h_|(have e_:=(Kd.R_reads' HO_0.out).1;omega)|simpa using h_) (seg:=[.int .i64 (wrap64 (x1_1+1))]) (j:=1) hcl10 hcc10 (show 2≤2 from by decide) (x':=(⟨(rd_T96 y1018 x5_1).f0,wrap64 (x1_1+1)⟩:S96)) (k96_mkM _ _ _ (⟨(rd_T96 y1018 x5_1).f0,wrap64 (x1_1+1)⟩:S96)) (fun _ hk=>hk);have hx10_1:=hcc10 1 _ rfl;(try simp only[show(k96).sz=2 from rfl,Nat.mul_one,Nat.add_zero] at hx10_1);have hf10_1:=hfr10 1;(try simp only[show(k96).sz=2 from rfl,Nat.mul_one,Nat.add_zero] at hf10_1);clear hcl10 hcc10 hfr10 hM10)|((with_reducible refine gate_store (t:=3) (p:=23) rfl ?_);refine store_event (t:=3) (p:=23) (v:=?vo_w11) (w1:=(w9.setCell ⟨go5,(x5_1:Int).toNat * 2+1,none⟩ (.int .i64 (wrap64 (x1_1+1))))) ?hg ?ho ?hn ?hr ?_;(case ho=>rfl);(case hg=>rfl);(case hn=>rfl);(case hr=>first|(go_simp;done)|(go_simp;rfl));intro w11 hw;have hg:w9.grownBy w11 (some go5):=(by rw[hw];exact HP10.2);have hp_:Kd.R k96 96 w11 w0.heap.size (fun k_=>(P0_ k_∨w.heap.size≤k_)) (.slice (some ⟨go5,0,none⟩) x0_1.length co7) y1019:=(by rw[hw,Ny1019.out];exact HP10.1);clear HP10;replace HB:=aM ((by rw[hw];exact below_set (HB.out) GB5.out:Below w0.heap.size w0 w11));replace HK:=aM (Kept.of_grown (S:=(fun k_=>P0_ k_)) hg (by exact Zq43_0) (fun k_ e_=>(HO_0.out.1 k_ e_)));replace HO_0:=aM (hp_);clear hg hw hp_))
        go_roundg k1
        case measure=>have:=HK1.out;omega
        case rel=>exact⟨(y1019),(wrap64 ((wrap64 (x1_1+1))+1)),(wrap64 (x5_1+1)),TF,TF,H',⟨by have:=HK1.out;omega⟩,⟨by have X_:=HO_0.out;exact TR⟩,⟨by repeat (first|(with_reducible first|exact HK.out|apply Kept.alloc|apply Kept.drewN|apply Kept.drew)|exact HK.out)⟩,⟨TB⟩⟩
      · rw[if_neg c3] at H
        have c3b0:decide (x5_1<(x0_1.length:Int))=false:=decide_eq_false c3
        clear c3
        simp only[Option.some.injEq,Prod.mk.injEq] at H
        obtain⟨rfl,rfl⟩:=H
        obtain⟨Ao12,co12,eo12⟩:=Kd.R_slice HO_0.out
        subst eo12
        go_wp2
        go_ret
        exact⟨TE,by have X_:=HO_0.out;exact TR,TB,by repeat (first|(with_reducible first|exact HK.out|apply Kept.alloc|apply Kept.drewN|apply Kept.drew)|exact HK.out)⟩
def laws_markManifest.f (k:Nat)(c:Int)(d:Int)(e:Int)(b:List (S96))(f:Int):Option (Int×(List (S96))):=(laws_markSumS.f k b f).bind fun a=>(some (a.1,a.2))
theorem laws_markManifest.mono :∀a b c d e k,LeO (laws_markManifest.f k a b c d e) (laws_markManifest.f (k+1) a b c d e):=by
  intro a0 a1 a2 a3 a4 k;have m0_:=@laws_markSumS.mono;unfold laws_markManifest.f;exact LM
theorem laws_markManifest.calls {k:Nat}{a0_0:Int}{a0_1:Int}{a0_2:Int}(P0_3_:Nat→Prop)(u9000_:Value)(l0_3:List (S96))(a1:Int)(r1:Int)(r2:List (S96))(w0 w:World)(hB:Below w0.heap.size w0 w)(ho0_3:Kd.R k96 96 w w0.heap.size P0_3_ u9000_ l0_3)(h:laws_markManifest.f k a0_0 a0_1 a0_2 l0_3 a1=some (r1,r2)):
    Calls Tryz.prog 17 #[.agg #[.int .i64 a0_0,.int .i64 a0_1,.int .i64 a0_2,u9000_],.int .i64 a1] w fun e w'=>e=.returned (.int .i64 r1)∧Kd.R k96 96 w' w0.heap.size (fun k_=>(P0_3_ k_∨w.heap.size≤k_)) u9000_ r2∧Below w0.heap.size w0 w'∧Kept w w' (fun k_=>P0_3_ k_):=by
  have hu45:=Tryz.underlying45
  have HO0_3:=aM (show Kd.R k96 96 w w0.heap.size (fun k_=>(P0_3_ k_∨w.heap.size≤k_)) u9000_ l0_3 from Kd.R_mono ho0_3 (fun k_ hk=>(.inl hk)))
  have HK:=aM (Kept.refl w (fun k_=>P0_3_ k_))
  have HW0:=aM hB.size
  have HB:=aM hB
  clear hB
  have H:=h
  clear h
  unfold laws_markManifest.f at H
  replace H:=bE H
  obtain⟨⟨t1021,t1022⟩,A3,H⟩:=H
  dsimp only at H
  simp only[Option.some.injEq,Prod.mk.injEq] at H
  obtain⟨rfl,rfl⟩:=H
  obtain⟨Ao4,co4,eo4⟩:=Kd.R_slice HO0_3.out
  subst eo4
  go_enter Tryz.func17,Tryz.ntmps17
  go_wp2_with (first|(refine g_D 2 ?_;refine gBx 2 #[.int .i64 a0_0,.int .i64 a0_1,.int .i64 a0_2,.slice Ao4 l0_3.length co4] 45 ?_;intro gb1020 hg w5 hbox hb;have BK1020:=aM (hbox);have GW1020:=aM ((by rw[hg];exact(by first|exact HK.out.1|exact(show Kept w _ (fun k_=>P0_3_ k_) from by exact Zq43_0).1):w.heap.size≤gb1020));have GE1020:=aM ((by rw[hg];exact(below_size TB):w0.heap.size≤gb1020));replace HO0_3:=mR HO0_3 hb;replace HK:=aM (Kept.below (S:=(fun k_=>P0_3_ k_)) (by exact Zq43_0) hb);replace HB:=bS HB hb;clear hb hbox hg;obtain⟨hcz6_0,hcz6_1,hcz6_2,hcz6_3⟩:=cz4 BK1020.out;obtain⟨hfz6_0,hfz6_1,hfz6_2,hfz6_3⟩:=fz4 BK1020.out)|(refine g_C 47 ?_;refine gL (some 8) Tryz.func47 #[.slice Ao4 l0_3.length co4,.int .i64 a1] ?_;(with_reducible refine(laws_markSumS.calls (fun k_=>some k_=(.slice Ao4 l0_3.length co4:Value).ownBlock) (.slice Ao4 l0_3.length co4) l0_3 a1 t1021 t1022 w0 _ ?side1 ?side2 A3.out).mono ?_);(case side1=>exact TB);(case side2=>exact Kd.R_tight rfl HO0_3.out);rintro e w7 ⟨rfl,hy0,hb,hkp⟩;refine⟨_,rfl,?_⟩;replace BK1020:=aM (blk_kept TK hkp (fun hs_=>(fun e_=>(Kd.R_ne HO0_3.out BK1020.out (by decide)) e_) hs_));replace HK:=aM (Kept.then_ (S:=(fun k_=>P0_3_ k_)) (by exact Zq43_0) hkp (fun k_ hs_=>(fun e_=>(HO0_3.out.1 k_ e_.symm)) hs_));replace HO0_3:=aM (Kd.R_reok rfl hy0 (fun k_ e_=>HO0_3.out.1 k_ e_));replace HB:=aM (hb);(try clear hb);(try clear hkp);(try clear hy0)))
  go_ret
  exact⟨TE,by have X_:=HO0_3.out;exact TR,TB,by repeat (first|(with_reducible first|exact HK.out|apply Kept.alloc|apply Kept.drewN|apply Kept.drew|refine Kept.setCell ?_ (.inr GW1020.out) _)|exact HK.out)⟩
def laws_markBuild.f (k:Nat)(c:Int)(b:List Int)(d:Int):Option (Int×List Int):=(laws_markByteS.f k b d).bind fun a=>(some (a.1,a.2))
theorem laws_markBuild.mono :∀a b c k,LeO (laws_markBuild.f k a b c) (laws_markBuild.f (k+1) a b c):=by
  intro a0 a1 a2 k;have m0_:=@laws_markByteS.mono;unfold laws_markBuild.f;exact LM
theorem laws_markBuild.calls {k:Nat}{ae:Int}(aa:Nat→Prop)(ad:Value)(ac:List Int)(a1:Int)(r1:Int)(r2:List Int)(w0 w:World)(hB:Below w0.heap.size w0 w)(ho0_1:Kd.R (Kd.int .u8) 5 w w0.heap.size aa ad ac)(h:laws_markBuild.f k ae ac a1=some (r1,r2)):
  Calls Tryz.prog 18 #[.agg #[.int .i64 ae,ad],.int .i64 a1] w fun e w'=>e=.returned (.int .i64 r1)∧Kd.R (Kd.int .u8) 5 w' w0.heap.size (fun k_=>(aa k_∨w.heap.size≤k_)) ad r2∧Below w0.heap.size w0 w'∧Kept w w' (fun k_=>aa k_):=by
 have huq1:=Tryz.underlying47;have ab:=aM (show Kd.R (Kd.int .u8) 5 w w0.heap.size (fun k_=>(aa k_∨w.heap.size≤k_)) ad ac from Kd.R_mono ho0_1 (fun k_ hk=>(.inl hk)));have HK:=aM (Kept.refl w (fun k_=>aa k_));have HW0:=aM hB.size;have HB:=aM hB;clear hB;have H:=h;clear h;unfold laws_markBuild.f at H;replace H:=bE H;obtain⟨⟨tq1,tq2⟩,A3,H⟩:=H;dsimp only at H;simp only[Option.some.injEq,Prod.mk.injEq] at H;obtain⟨rfl,rfl⟩:=H;obtain⟨Ao4,co4,eo4⟩:=Kd.R_slice ab.out;subst eo4;go_enter Tryz.func18,Tryz.ntmps18;go_wp2_with (first|(refine g_D 2 ?_;refine gBx 2 #[.int .i64 ae,.slice Ao4 ac.length co4] 47 ?_;intro gbq1 hg w5 hbox hb;have BKq1:=aM (hbox);have GWq1:=aM ((by rw[hg];exact(by first|exact HK.out.1|exact(show Kept w _ (fun k_=>aa k_) from by exact Zq43_0).1):w.heap.size≤gbq1));have GEq1:=aM ((by rw[hg];exact(below_size TB):w0.heap.size≤gbq1));replace ab:=mR ab hb;replace HK:=aM (Kept.below (S:=(fun k_=>aa k_)) (by exact Zq43_0) hb);replace HB:=bS HB hb;clear hb hbox hg;obtain⟨hcz6_0,hcz6_1⟩:=cz2 BKq1.out;obtain⟨hfz6_0,hfz6_1⟩:=fz2 BKq1.out)|(refine g_C 45 ?_;refine gL (some 8) Tryz.func45 #[.slice Ao4 ac.length co4,.int .i64 a1] ?_;(with_reducible refine(laws_markByteS.calls (fun k_=>some k_=(.slice Ao4 ac.length co4:Value).ownBlock) (.slice Ao4 ac.length co4) ac a1 tq1 tq2 w0 _ ?side1 ?side2 A3.out).mono ?_);(case side1=>exact TB);(case side2=>exact Kd.R_tight rfl ab.out);rintro e w7 ⟨rfl,hy0,hb,hkp⟩;refine⟨_,rfl,?_⟩;replace BKq1:=aM (blk_kept TK hkp (fun hs_=>(fun e_=>(Kd.R_ne ab.out BKq1.out (by decide)) e_) hs_));replace HK:=aM (Kept.then_ (S:=(fun k_=>aa k_)) (by exact Zq43_0) hkp (fun k_ hs_=>(fun e_=>(ab.out.1 k_ e_.symm)) hs_));replace ab:=aM (Kd.R_reok rfl hy0 (fun k_ e_=>ab.out.1 k_ e_));replace HB:=aM (hb);(try clear hb);(try clear hkp);(try clear hy0)))
 go_ret
 exact⟨TE,by have X_:=ab.out;exact TR,TB,by repeat (first|(with_reducible first|exact HK.out|apply Kept.alloc|apply Kept.drewN|apply Kept.drew|refine Kept.setCell ?_ (.inr GWq1.out) _)|exact HK.out)⟩
theorem Zq44_0 {p:Prop}(h:p:=by repeat (first|exact(Kd.C_below HR1029_2.out (Below.refl _ _))|(with_reducible refine Kd.C_alloc ?_ _)|(with_reducible refine Kd.C_drewN ?_ _)|(with_reducible refine Kd.C_drew ?_))):p:=h
theorem Zq44_1 {p:Prop}(h:p:=by repeat (first|exact(Kd.C_below HRq1.out TB)|(with_reducible refine Kd.C_alloc ?_ _)|(with_reducible refine Kd.C_drewN ?_ _)|(with_reducible refine Kd.C_drew ?_))):p:=h
theorem Zq44_2 {p:Prop}(h:p:=by repeat (first|exact(Kd.C_below HRq2.out TB)|(with_reducible refine Kd.C_alloc ?_ _)|(with_reducible refine Kd.C_drewN ?_ _)|(with_reducible refine Kd.C_drew ?_))):p:=h
theorem Zq44_3 {p:Prop}(h:p:=by repeat (first|exact(Kd.C_below HRq3.out TB)|(with_reducible refine Kd.C_alloc ?_ _)|(with_reducible refine Kd.C_drewN ?_ _)|(with_reducible refine Kd.C_drew ?_))):p:=h
def laws_heldByteS.l0 :Nat→List Int→Int→Int→Option (Int)
  |0,_,_,_=>none
  |k+1,b,c,a=>if a<(b.length:Int) then (if 0≤a then (if (rd b a)=((c) % 256) then (laws_heldByteS.l0 k b (wrap64 (c+1)) (wrap64 (a+1))) else (some (-1))) else (none)) else (some c)
def laws_heldByteS.f (k:Nat)(a:List Int)(b:Int):Option (Int):=laws_heldByteS.l0 k a b 0
theorem laws_heldByteS.mono_l :∀k,(∀a b c,LeO (laws_heldByteS.l0 k a b c) (laws_heldByteS.l0 (k+1) a b c))
  |0=>fun _ _ _ r h=>by simp [laws_heldByteS.l0] at h
  | k+1=>by
    have ih0:=laws_heldByteS.mono_l k
    · intro y0 y1 y2
      unfold laws_heldByteS.l0
      exact LM
theorem laws_heldByteS.mono :∀a b k,LeO (laws_heldByteS.f k a b) (laws_heldByteS.f (k+1) a b):=by
  intro a0 a1 k;have ih0:=laws_heldByteS.mono_l k;unfold laws_heldByteS.f;exact LM
theorem laws_heldByteS.calls {k:Nat}{A0:Option Addr}{c0:Nat}{l0:List Int}{a1:Int}{r:Int}{w:World}(hr0:Kd.C (Kd.int .u8) w A0 l0.length l0)(hc0:l0.length≤c0)(h:laws_heldByteS.f k l0 a1=some r):
    Calls Tryz.prog 48 #[.slice A0 l0.length c0,.int .i64 a1] w fun e w'=>e=.returned (.int .i64 r)∧Drawn0 w w':=by
  have HR0:=aM hr0
  have HC0:=aM hc0
  clear hr0 hc0
  have H:=h
  clear h
  unfold laws_heldByteS.f at H
  have H':=aM H
  clear H
  go_enter Tryz.func48,Tryz.ntmps48
  go_wp2
  go_loopg [1,5] k (fun kq v1 v5 w'=>∃(x1_1:Int) (x5_1:Int),v1=.int .i64 x1_1∧v5=.int .i64 x5_1∧Aside0 (laws_heldByteS.l0 kq l0 x1_1 x5_1=some r)∧Aside0 (kq≤k)∧Drawn0 w w')
  case atStart=>exact⟨(a1),(0),TF,TF,H',⟨Nat.le_refl _⟩,TD⟩
  case round=>
    clear H'
    try clear p2
    obtain⟨x1_1,x5_1,rfl,rfl,HA,HK1,⟨m1,rfl⟩⟩:=hrel
    cases gk with
    |zero=>exact absurd HA.out (by simp [laws_heldByteS.l0])
    | succ k1=>
      have H:=HA.out
      clear HA
      simp only[laws_heldByteS.l0] at H
      by_cases c3:x5_1<(l0.length:Int)
      · rw[if_pos c3] at H
        have c3b0:decide (x5_1<(l0.length:Int))=true:=decide_eq_true c3
        clear c3
        replace H:=ifN H
        obtain⟨c4,H⟩:=H
        have c4b0:decide (0≤x5_1)=true:=decide_eq_true c4
        clear c4
        by_cases c5:(rd l0 x5_1)=((x1_1) % 256)
        · rw[if_pos c5] at H
          have c5b0:((rd l0 x5_1)==((x1_1) % 256))=true:=beq_iff_eq.mpr c5
          have c5b1:((rd l0 x5_1) != ((x1_1) % 256))=false:=bne_eq_false_iff_eq.mpr c5
          clear c5
          have H':=aM H
          clear H
          have p1026:0≤(x5_1:Int):=DT
          have q1026:x5_1<(l0.length:Int):=DT
          obtain⟨ad1026,e1026,hx1026_0⟩:=Kd.at_int HR0.out x5_1 p1026 q1026
          cases e1026
          replace p1026:=eq_true p1026
          replace q1026:=eq_true q1026
          go_wp2
          go_roundg k1
          case measure=>have:=HK1.out;omega
          case rel=>exact⟨(wrap64 (x1_1+1)),(wrap64 (x5_1+1)),TF,TF,H',⟨by have:=HK1.out;omega⟩,TD⟩
        · rw[if_neg c5] at H
          have c5b0:((rd l0 x5_1)==((x1_1) % 256))=false:=beq_eq_false_iff_ne.mpr c5
          have c5b1:((rd l0 x5_1) != ((x1_1) % 256))=true:=bne_iff_ne.mpr c5
          obtain rfl:=o_I H
          have p1026:0≤(x5_1:Int):=DT
          have q1026:x5_1<(l0.length:Int):=DT
          obtain⟨ad1026,e1026,hx1026_0⟩:=Kd.at_int HR0.out x5_1 p1026 q1026
          cases e1026
          replace p1026:=eq_true p1026
          replace q1026:=eq_true q1026
          go_wp2
          go_ret
          exact⟨by first|rfl|(simp;done)|(simp [*];done),TD⟩
      · rw[if_neg c3] at H
        have c3b0:decide (x5_1<(l0.length:Int))=false:=decide_eq_false c3
        clear c3
        obtain rfl:=o_I H
        go_wp2
        go_ret
        exact⟨by first|rfl|(simp;done)|(simp [*];done),TD⟩
def laws_heldPutS.l0 :Nat→List (S91)→Int→Int→Option (Int)
  |0,_,_,_=>none
  |k+1,c,d,b=>if b<(c.length:Int) then (if 0≤b then (if ((rd_T91 c b).f0)=d then (if ((rd_T91 c b).f1)=(wrap64 (d+1)) then ((laws_heldByteS.f k ((rd_T91 c b).f2) (wrap64 ((wrap64 (d+1))+1))).bind fun a=>(if a<0 then (some (-1)) else (if ((rd_T91 c b).f3.f0)=a then (if ((rd_T91 c b).f3.f1)=(wrap64 (a+1)) then (if ((rd_T91 c b).f3.f2)=(wrap64 ((wrap64 (a+1))+1)) then (laws_heldPutS.l0 k c (wrap64 ((wrap64 ((wrap64 (a+1))+1))+1)) (wrap64 (b+1))) else (some (-1))) else (some (-1))) else (some (-1))))) else (some (-1))) else (some (-1))) else (none)) else (some d)
def laws_heldPutS.f (k:Nat)(a:List (S91))(b:Int):Option (Int):=laws_heldPutS.l0 k a b 0
theorem laws_heldPutS.mono_l :∀k,(∀a b c,LeO (laws_heldPutS.l0 k a b c) (laws_heldPutS.l0 (k+1) a b c))
  |0=>fun _ _ _ r h=>by simp [laws_heldPutS.l0] at h
  | k+1=>by
    have m0_:=@laws_heldByteS.mono
    have ih0:=laws_heldPutS.mono_l k
    · intro y0 y1 y2
      unfold laws_heldPutS.l0
      exact LM
theorem laws_heldPutS.mono :∀a b k,LeO (laws_heldPutS.f k a b) (laws_heldPutS.f (k+1) a b):=by
  intro a0 a1 k;have m0_:=@laws_heldByteS.mono;have ih0:=laws_heldPutS.mono_l k;unfold laws_heldPutS.f;exact LM
theorem laws_heldPutS.calls {k:Nat}{A0:Option Addr}{c0:Nat}{l0:List (S91)}{a1:Int}{r:Int}{w:World}(hr0:Kd.C k91 w A0 l0.length l0)(hc0:l0.length≤c0)(h:laws_heldPutS.f k l0 a1=some r):
    Calls Tryz.prog 49 #[.slice A0 l0.length c0,.int .i64 a1] w fun e w'=>e=.returned (.int .i64 r)∧Drawn0 w w':=by
  have HR0:=aM hr0
  have HC0:=aM hc0
  clear hr0 hc0
  have H:=h
  clear h
  unfold laws_heldPutS.f at H
  have H':=aM H
  clear H
  go_enter Tryz.func49,Tryz.ntmps49
  go_wp2
  go_loopg [1,5] k (fun kq v1 v5 w'=>∃(x1_1:Int) (x5_1:Int),v1=.int .i64 x1_1∧v5=.int .i64 x5_1∧Aside0 (laws_heldPutS.l0 kq l0 x1_1 x5_1=some r)∧Aside0 (kq≤k)∧Drawn0 w w')
  case atStart=>exact⟨(a1),(0),TF,TF,H',⟨Nat.le_refl _⟩,TD⟩
  case round=>
    clear H'
    try clear p2
    obtain⟨x1_1,x5_1,rfl,rfl,HA,HK1,⟨m1,rfl⟩⟩:=hrel
    cases gk with
    |zero=>exact absurd HA.out (by simp [laws_heldPutS.l0])
    | succ k1=>
      have H:=HA.out
      clear HA
      simp only[laws_heldPutS.l0] at H
      by_cases c3:x5_1<(l0.length:Int)
      · rw[if_pos c3] at H
        have c3b0:decide (x5_1<(l0.length:Int))=true:=decide_eq_true c3
        clear c3
        replace H:=ifN H
        obtain⟨c4,H⟩:=H
        have c4b0:decide (0≤x5_1)=true:=decide_eq_true c4
        clear c4
        by_cases c5:((rd_T91 l0 x5_1).f0)=x1_1
        · rw[if_pos c5] at H
          have c5b0:(((rd_T91 l0 x5_1).f0)==x1_1)=true:=beq_iff_eq.mpr c5
          have c5b1:(((rd_T91 l0 x5_1).f0) != x1_1)=false:=bne_eq_false_iff_eq.mpr c5
          clear c5
          by_cases c6:((rd_T91 l0 x5_1).f1)=(wrap64 (x1_1+1))
          · rw[if_pos c6] at H
            have c6b0:(((rd_T91 l0 x5_1).f1)==(wrap64 (x1_1+1)))=true:=beq_iff_eq.mpr c6
            have c6b1:(((rd_T91 l0 x5_1).f1) != (wrap64 (x1_1+1)))=false:=bne_eq_false_iff_eq.mpr c6
            clear c6
            replace H:=bE H
            obtain⟨t1030,A7,H⟩:=H
            have p1027:0≤(x5_1:Int):=DT
            have q1027:x5_1<(l0.length:Int):=DT
            obtain⟨ad1027,A1027_2,c1027_2,e1027,hx1027_0,hx1027_1,hx1027_2,hx1027_3,hx1027_4,hx1027_5,hl1027_2,hi1027_2⟩:=at_T91 HR0.out x5_1 p1027 q1027
            cases e1027
            have HR1027_2:=aM hi1027_2
            have HC1027_2:=aM hl1027_2
            clear hi1027_2 hl1027_2
            replace p1027:=eq_true p1027
            replace q1027:=eq_true q1027
            have p1028:0≤(x5_1:Int):=DT
            have q1028:x5_1<(l0.length:Int):=DT
            obtain⟨ad1028,A1028_2,c1028_2,e1028,hx1028_0,hx1028_1,hx1028_2,hx1028_3,hx1028_4,hx1028_5,hl1028_2,hi1028_2⟩:=at_T91 HR0.out x5_1 p1028 q1028
            obtain rfl:ad1027=ad1028:=(by injection e1028)
            have HR1028_2:=aM hi1028_2
            have HC1028_2:=aM hl1028_2
            clear hi1028_2 hl1028_2
            replace p1028:=eq_true p1028
            replace q1028:=eq_true q1028
            have ea_:=Option.some.inj (hx1027_2.symm.trans hx1028_2)
            injection ea_ with ea_ en_ ec_
            subst ea_
            subst ec_
            clear en_
            have p1029:0≤(x5_1:Int):=DT
            have q1029:x5_1<(l0.length:Int):=DT
            obtain⟨ad1029,A1029_2,c1029_2,e1029,hx1029_0,hx1029_1,hx1029_2,hx1029_3,hx1029_4,hx1029_5,hl1029_2,hi1029_2⟩:=at_T91 HR0.out x5_1 p1029 q1029
            obtain rfl:ad1027=ad1029:=(by injection e1029)
            have HR1029_2:=aM hi1029_2
            have HC1029_2:=aM hl1029_2
            clear hi1029_2 hl1029_2
            replace p1029:=eq_true p1029
            replace q1029:=eq_true q1029
            have ea_:=Option.some.inj (hx1027_2.symm.trans hx1029_2)
            injection ea_ with ea_ en_ ec_
            subst ea_
            subst ec_
            clear en_
            go_wp2_with (first|(refine g_C 48 ?_;refine g_D 36 ?_;generalize hG_:wpList _ _ _ _ _ _=G_))
            subst hG_
            by_cases c8:t1030<0
            · rw[if_pos c8] at H
              have c8b0:decide (t1030<0)=true:=decide_eq_true c8
              clear c8
              obtain rfl:=o_I H
              go_wp2_with (first|(refine g_C 48 ?_;refine gL (some 36) Tryz.func48 #[.slice A1027_2 ((rd_T91 l0 x5_1).f2).length c1027_2,.int .i64 (wrap64 ((wrap64 (x1_1+1))+1))] ?_;(with_reducible refine(laws_heldByteS.calls ?side1 ?side2 A7.out).mono ?_);(case side1=>exact Zq44_0);(case side2=>exact HC1029_2.out);rintro e w' ⟨rfl,⟨nd,rfl⟩⟩;refine⟨_,rfl,?_⟩))
              go_ret
              exact⟨by first|rfl|(simp;done)|(simp [*];done),TD⟩
            · rw[if_neg c8] at H
              have c8b0:decide (t1030<0)=false:=decide_eq_false c8
              clear c8
              by_cases c9:((rd_T91 l0 x5_1).f3.f0)=t1030
              · rw[if_pos c9] at H
                have c9b0:(((rd_T91 l0 x5_1).f3.f0)==t1030)=true:=beq_iff_eq.mpr c9
                have c9b1:(((rd_T91 l0 x5_1).f3.f0) != t1030)=false:=bne_eq_false_iff_eq.mpr c9
                clear c9
                by_cases c10:((rd_T91 l0 x5_1).f3.f1)=(wrap64 (t1030+1))
                · rw[if_pos c10] at H
                  have c10b0:(((rd_T91 l0 x5_1).f3.f1)==(wrap64 (t1030+1)))=true:=beq_iff_eq.mpr c10
                  have c10b1:(((rd_T91 l0 x5_1).f3.f1) != (wrap64 (t1030+1)))=false:=bne_eq_false_iff_eq.mpr c10
                  clear c10
                  by_cases c11:((rd_T91 l0 x5_1).f3.f2)=(wrap64 ((wrap64 (t1030+1))+1))
                  · rw[if_pos c11] at H
                    have c11b0:(((rd_T91 l0 x5_1).f3.f2)==(wrap64 ((wrap64 (t1030+1))+1)))=true:=beq_iff_eq.mpr c11
                    have c11b1:(((rd_T91 l0 x5_1).f3.f2) != (wrap64 ((wrap64 (t1030+1))+1)))=false:=bne_eq_false_iff_eq.mpr c11
                    clear c11
                    have H':=aM H
                    clear H
                    go_wp2_with (first|(refine g_C 48 ?_;refine gL (some 36) Tryz.func48 #[.slice A1027_2 ((rd_T91 l0 x5_1).f2).length c1027_2,.int .i64 (wrap64 ((wrap64 (x1_1+1))+1))] ?_;(with_reducible refine(laws_heldByteS.calls ?side1 ?side2 A7.out).mono ?_);(case side1=>exact Zq44_0);(case side2=>exact HC1029_2.out);rintro e w' ⟨rfl,⟨nd,rfl⟩⟩;refine⟨_,rfl,?_⟩;have p1031:0≤(x5_1:Int):=DT;have q1031:x5_1<(l0.length:Int):=DT;obtain⟨ad1031,A1031_2,c1031_2,e1031,hx1031_0,hx1031_1,hx1031_2,hx1031_3,hx1031_4,hx1031_5,hl1031_2,hi1031_2⟩:=at_T91 HR0.out x5_1 p1031 q1031;obtain rfl:ad1027=ad1031:=(by injection e1031);have HR1031_2:=aM hi1031_2;have HC1031_2:=aM hl1031_2;clear hi1031_2 hl1031_2;replace p1031:=eq_true p1031;replace q1031:=eq_true q1031;have p1032:0≤(x5_1:Int):=DT;have q1032:x5_1<(l0.length:Int):=DT;obtain⟨ad1032,A1032_2,c1032_2,e1032,hx1032_0,hx1032_1,hx1032_2,hx1032_3,hx1032_4,hx1032_5,hl1032_2,hi1032_2⟩:=at_T91 HR0.out x5_1 p1032 q1032;obtain rfl:ad1027=ad1032:=(by injection e1032);have HR1032_2:=aM hi1032_2;have HC1032_2:=aM hl1032_2;clear hi1032_2 hl1032_2;replace p1032:=eq_true p1032;replace q1032:=eq_true q1032;have ea_:=Option.some.inj (hx1031_2.symm.trans hx1032_2);injection ea_ with ea_ en_ ec_;subst ea_;subst ec_;clear en_;have p1033:0≤(x5_1:Int):=DT;have q1033:x5_1<(l0.length:Int):=DT;obtain⟨ad1033,A1033_2,c1033_2,e1033,hx1033_0,hx1033_1,hx1033_2,hx1033_3,hx1033_4,hx1033_5,hl1033_2,hi1033_2⟩:=at_T91 HR0.out x5_1 p1033 q1033;obtain rfl:ad1027=ad1033:=(by injection e1033);have HR1033_2:=aM hi1033_2;have HC1033_2:=aM hl1033_2;clear hi1033_2 hl1033_2;replace p1033:=eq_true p1033;replace q1033:=eq_true q1033;have ea_:=Option.some.inj (hx1031_2.symm.trans hx1033_2);injection ea_ with ea_ en_ ec_;subst ea_;subst ec_;clear en_))
                    go_roundg k1
                    case measure=>have:=HK1.out;omega
                    case rel=>exact⟨(wrap64 ((wrap64 ((wrap64 (t1030+1))+1))+1)),(wrap64 (x5_1+1)),TF,TF,H',⟨by have:=HK1.out;omega⟩,TD⟩
                  · rw[if_neg c11] at H
                    have c11b0:(((rd_T91 l0 x5_1).f3.f2)==(wrap64 ((wrap64 (t1030+1))+1)))=false:=beq_eq_false_iff_ne.mpr c11
                    have c11b1:(((rd_T91 l0 x5_1).f3.f2) != (wrap64 ((wrap64 (t1030+1))+1)))=true:=bne_iff_ne.mpr c11
                    obtain rfl:=o_I H
                    go_wp2_with (first|(refine g_C 48 ?_;refine gL (some 36) Tryz.func48 #[.slice A1027_2 ((rd_T91 l0 x5_1).f2).length c1027_2,.int .i64 (wrap64 ((wrap64 (x1_1+1))+1))] ?_;(with_reducible refine(laws_heldByteS.calls ?side1 ?side2 A7.out).mono ?_);(case side1=>exact Zq44_0);(case side2=>exact HC1029_2.out);rintro e w' ⟨rfl,⟨nd,rfl⟩⟩;refine⟨_,rfl,?_⟩;have p1031:0≤(x5_1:Int):=DT;have q1031:x5_1<(l0.length:Int):=DT;obtain⟨ad1031,A1031_2,c1031_2,e1031,hx1031_0,hx1031_1,hx1031_2,hx1031_3,hx1031_4,hx1031_5,hl1031_2,hi1031_2⟩:=at_T91 HR0.out x5_1 p1031 q1031;obtain rfl:ad1027=ad1031:=(by injection e1031);have HR1031_2:=aM hi1031_2;have HC1031_2:=aM hl1031_2;clear hi1031_2 hl1031_2;replace p1031:=eq_true p1031;replace q1031:=eq_true q1031;have p1032:0≤(x5_1:Int):=DT;have q1032:x5_1<(l0.length:Int):=DT;obtain⟨ad1032,A1032_2,c1032_2,e1032,hx1032_0,hx1032_1,hx1032_2,hx1032_3,hx1032_4,hx1032_5,hl1032_2,hi1032_2⟩:=at_T91 HR0.out x5_1 p1032 q1032;obtain rfl:ad1027=ad1032:=(by injection e1032);have HR1032_2:=aM hi1032_2;have HC1032_2:=aM hl1032_2;clear hi1032_2 hl1032_2;replace p1032:=eq_true p1032;replace q1032:=eq_true q1032;have ea_:=Option.some.inj (hx1031_2.symm.trans hx1032_2);injection ea_ with ea_ en_ ec_;subst ea_;subst ec_;clear en_;have p1033:0≤(x5_1:Int):=DT;have q1033:x5_1<(l0.length:Int):=DT;obtain⟨ad1033,A1033_2,c1033_2,e1033,hx1033_0,hx1033_1,hx1033_2,hx1033_3,hx1033_4,hx1033_5,hl1033_2,hi1033_2⟩:=at_T91 HR0.out x5_1 p1033 q1033;obtain rfl:ad1027=ad1033:=(by injection e1033);have HR1033_2:=aM hi1033_2;have HC1033_2:=aM hl1033_2;clear hi1033_2 hl1033_2;replace p1033:=eq_true p1033;replace q1033:=eq_true q1033;have ea_:=Option.some.inj (hx1031_2.symm.trans hx1033_2);injection ea_ with ea_ en_ ec_;subst ea_;subst ec_;clear en_))
                    go_ret
                    exact⟨by first|rfl|(simp;done)|(simp [*];done),TD⟩
                · rw[if_neg c10] at H
                  have c10b0:(((rd_T91 l0 x5_1).f3.f1)==(wrap64 (t1030+1)))=false:=beq_eq_false_iff_ne.mpr c10
                  have c10b1:(((rd_T91 l0 x5_1).f3.f1) != (wrap64 (t1030+1)))=true:=bne_iff_ne.mpr c10
                  obtain rfl:=o_I H
                  go_wp2_with (first|(refine g_C 48 ?_;refine gL (some 36) Tryz.func48 #[.slice A1027_2 ((rd_T91 l0 x5_1).f2).length c1027_2,.int .i64 (wrap64 ((wrap64 (x1_1+1))+1))] ?_;(with_reducible refine(laws_heldByteS.calls ?side1 ?side2 A7.out).mono ?_);(case side1=>exact Zq44_0);(case side2=>exact HC1029_2.out);rintro e w' ⟨rfl,⟨nd,rfl⟩⟩;refine⟨_,rfl,?_⟩;have p1031:0≤(x5_1:Int):=DT;have q1031:x5_1<(l0.length:Int):=DT;obtain⟨ad1031,A1031_2,c1031_2,e1031,hx1031_0,hx1031_1,hx1031_2,hx1031_3,hx1031_4,hx1031_5,hl1031_2,hi1031_2⟩:=at_T91 HR0.out x5_1 p1031 q1031;obtain rfl:ad1027=ad1031:=(by injection e1031);have HR1031_2:=aM hi1031_2;have HC1031_2:=aM hl1031_2;clear hi1031_2 hl1031_2;replace p1031:=eq_true p1031;replace q1031:=eq_true q1031;have p1032:0≤(x5_1:Int):=DT;have q1032:x5_1<(l0.length:Int):=DT;obtain⟨ad1032,A1032_2,c1032_2,e1032,hx1032_0,hx1032_1,hx1032_2,hx1032_3,hx1032_4,hx1032_5,hl1032_2,hi1032_2⟩:=at_T91 HR0.out x5_1 p1032 q1032;obtain rfl:ad1027=ad1032:=(by injection e1032);have HR1032_2:=aM hi1032_2;have HC1032_2:=aM hl1032_2;clear hi1032_2 hl1032_2;replace p1032:=eq_true p1032;replace q1032:=eq_true q1032;have ea_:=Option.some.inj (hx1031_2.symm.trans hx1032_2);injection ea_ with ea_ en_ ec_;subst ea_;subst ec_;clear en_))
                  go_ret
                  exact⟨by first|rfl|(simp;done)|(simp [*];done),TD⟩
              · rw[if_neg c9] at H
                have c9b0:(((rd_T91 l0 x5_1).f3.f0)==t1030)=false:=beq_eq_false_iff_ne.mpr c9
                have c9b1:(((rd_T91 l0 x5_1).f3.f0) != t1030)=true:=bne_iff_ne.mpr c9
                obtain rfl:=o_I H
                go_wp2_with (first|(refine g_C 48 ?_;refine gL (some 36) Tryz.func48 #[.slice A1027_2 ((rd_T91 l0 x5_1).f2).length c1027_2,.int .i64 (wrap64 ((wrap64 (x1_1+1))+1))] ?_;(with_reducible refine(laws_heldByteS.calls ?side1 ?side2 A7.out).mono ?_);(case side1=>exact Zq44_0);(case side2=>exact HC1029_2.out);rintro e w' ⟨rfl,⟨nd,rfl⟩⟩;refine⟨_,rfl,?_⟩;have p1031:0≤(x5_1:Int):=DT;have q1031:x5_1<(l0.length:Int):=DT;obtain⟨ad1031,A1031_2,c1031_2,e1031,hx1031_0,hx1031_1,hx1031_2,hx1031_3,hx1031_4,hx1031_5,hl1031_2,hi1031_2⟩:=at_T91 HR0.out x5_1 p1031 q1031;obtain rfl:ad1027=ad1031:=(by injection e1031);have HR1031_2:=aM hi1031_2;have HC1031_2:=aM hl1031_2;clear hi1031_2 hl1031_2;replace p1031:=eq_true p1031;replace q1031:=eq_true q1031))
                go_ret
                exact⟨by first|rfl|(simp;done)|(simp [*];done),TD⟩
          · rw[if_neg c6] at H
            have c6b0:(((rd_T91 l0 x5_1).f1)==(wrap64 (x1_1+1)))=false:=beq_eq_false_iff_ne.mpr c6
            have c6b1:(((rd_T91 l0 x5_1).f1) != (wrap64 (x1_1+1)))=true:=bne_iff_ne.mpr c6
            obtain rfl:=o_I H
            have p1027:0≤(x5_1:Int):=DT
            have q1027:x5_1<(l0.length:Int):=DT
            obtain⟨ad1027,A1027_2,c1027_2,e1027,hx1027_0,hx1027_1,hx1027_2,hx1027_3,hx1027_4,hx1027_5,hl1027_2,hi1027_2⟩:=at_T91 HR0.out x5_1 p1027 q1027
            cases e1027
            have HR1027_2:=aM hi1027_2
            have HC1027_2:=aM hl1027_2
            clear hi1027_2 hl1027_2
            replace p1027:=eq_true p1027
            replace q1027:=eq_true q1027
            have p1028:0≤(x5_1:Int):=DT
            have q1028:x5_1<(l0.length:Int):=DT
            obtain⟨ad1028,A1028_2,c1028_2,e1028,hx1028_0,hx1028_1,hx1028_2,hx1028_3,hx1028_4,hx1028_5,hl1028_2,hi1028_2⟩:=at_T91 HR0.out x5_1 p1028 q1028
            obtain rfl:ad1027=ad1028:=(by injection e1028)
            have HR1028_2:=aM hi1028_2
            have HC1028_2:=aM hl1028_2
            clear hi1028_2 hl1028_2
            replace p1028:=eq_true p1028
            replace q1028:=eq_true q1028
            have ea_:=Option.some.inj (hx1027_2.symm.trans hx1028_2)
            injection ea_ with ea_ en_ ec_
            subst ea_
            subst ec_
            clear en_
            go_wp2
            go_ret
            exact⟨by first|rfl|(simp;done)|(simp [*];done),TD⟩
        · rw[if_neg c5] at H
          have c5b0:(((rd_T91 l0 x5_1).f0)==x1_1)=false:=beq_eq_false_iff_ne.mpr c5
          have c5b1:(((rd_T91 l0 x5_1).f0) != x1_1)=true:=bne_iff_ne.mpr c5
          obtain rfl:=o_I H
          have p1027:0≤(x5_1:Int):=DT
          have q1027:x5_1<(l0.length:Int):=DT
          obtain⟨ad1027,A1027_2,c1027_2,e1027,hx1027_0,hx1027_1,hx1027_2,hx1027_3,hx1027_4,hx1027_5,hl1027_2,hi1027_2⟩:=at_T91 HR0.out x5_1 p1027 q1027
          cases e1027
          have HR1027_2:=aM hi1027_2
          have HC1027_2:=aM hl1027_2
          clear hi1027_2 hl1027_2
          replace p1027:=eq_true p1027
          replace q1027:=eq_true q1027
          go_wp2
          go_ret
          exact⟨by first|rfl|(simp;done)|(simp [*];done),TD⟩
      · rw[if_neg c3] at H
        have c3b0:decide (x5_1<(l0.length:Int))=false:=decide_eq_false c3
        clear c3
        obtain rfl:=o_I H
        go_wp2
        go_ret
        exact⟨by first|rfl|(simp;done)|(simp [*];done),TD⟩
def laws_heldDisk.f (k:Nat)(d:List Int)(e:List Int)(g:Int)(h:Int)(i:Int)(f:List (S91))(j:Int):Option (Int):=(laws_heldByteS.f k d j).bind fun a=>(if a<0 then (some (-1)) else ((laws_heldByteS.f k e a).bind fun b=>(if b<0 then (some (-1)) else ((laws_heldPutS.f k f b).bind fun c=>(if c<0 then (some (-1)) else (some c))))))
theorem laws_heldDisk.mono :∀a b c d e f g k,LeO (laws_heldDisk.f k a b c d e f g) (laws_heldDisk.f (k+1) a b c d e f g):=by
  intro a0 a1 a2 a3 a4 a5 a6 k;have m0_:=@laws_heldByteS.mono;have m1_:=@laws_heldPutS.mono;unfold laws_heldDisk.f;exact LM
theorem Yq44_0 {p:Prop}(h:p:=by
 clear cq1;obtain rfl:=o_I H;go_wp2_with (first|(refine g_C 49 ?_;refine gL (some 20) Tryz.func49 #[.slice ag ae.length ai,.int .i64 aa] ?_;(with_reducible refine(laws_heldPutS.calls ?side1 ?side2 Aq2.out).mono ?_);(case side1=>exact Zq44_3);(case side2=>exact HCq3.out);rintro e w' ⟨rfl,⟨nd,rfl⟩⟩;refine⟨_,rfl,?_⟩))
 go_ret
 exact⟨TE,TB⟩):p:=h
theorem laws_heldDisk.calls {k:Nat}{al:Option Addr}{ak:Nat}{ad:List Int}{aj:Option Addr}{ah:Nat}{ac:List Int}{am:Int}{ao:Int}{an:Int}{ag:Option Addr}{ai:Nat}{ae:List (S91)}{a1:Int}{r:Int}{w:World}(aq:Kd.C (Kd.int .u8) w al ad.length ad)(av:ad.length≤ak)(au:Kd.C (Kd.int .u8) w aj ac.length ac)(ar:ac.length≤ah)(ap:Kd.C k91 w ag ae.length ae)(aw:ae.length≤ai)(h:laws_heldDisk.f k ad ac am ao an ae a1=some r):
  Calls Tryz.prog 19 #[.agg #[.slice al ad.length ak,.slice aj ac.length ah,.int .i64 am,.int .i64 ao,.int .i64 an,.slice ag ae.length ai],.int .i64 a1] w fun e w'=>e=.returned (.int .i64 r)∧Below w.heap.size w w':=by
 have huq1:=Tryz.underlying39;have HRq1:=aM aq;have HCq1:=aM av;clear aq av;have HRq2:=aM au;have HCq2:=aM ar;clear au ar;have HRq3:=aM ap;have HCq3:=aM aw;clear ap aw;have HB:=aM (Below.refl w.heap.size w);have H:=h;clear h;unfold laws_heldDisk.f at H;replace H:=bE H;obtain⟨ab,Aq1,H⟩:=H;go_enter Tryz.func19,Tryz.ntmps19;go_wp2_with (first|(refine g_D 2 ?_;refine gBx 2 #[.slice al ad.length ak,.slice aj ac.length ah,.int .i64 am,.int .i64 ao,.int .i64 an,.slice ag ae.length ai] 39 ?_;intro gbq1 hg wq1 hbox hb;have BKq1:=aM (hbox);have GWq1:=gW HB hg;have GEq1:=gW HB hg;replace HB:=bS HB hb;clear hb hbox hg;obtain⟨hczq1,hczq2,hczq3,hczq4,hczq5,hczq6⟩:=cz6 BKq1.out;obtain⟨hfzq1,hfzq2,hfzq3,hfzq4,hfzq5,hfzq6⟩:=fz6 BKq1.out)|(refine g_C 48 ?_;refine g_D 8 ?_;generalize hG_:wpList _ _ _ _ _ _=G_))
 subst hG_
 by_cases c6:ab<0
 ·rw[if_pos c6] at H;have c6b0:decide (ab<0)=true:=decide_eq_true c6;clear c6;obtain rfl:=o_I H;go_wp2_with (first|(refine g_C 48 ?_;refine gL (some 8) Tryz.func48 #[.slice al ad.length ak,.int .i64 a1] ?_;(with_reducible refine(laws_heldByteS.calls ?side1 ?side2 Aq1.out).mono ?_);(case side1=>exact Zq44_1);(case side2=>exact HCq1.out);rintro e w' ⟨rfl,⟨nd,rfl⟩⟩;refine⟨_,rfl,?_⟩))
  go_ret
  exact⟨TE,TB⟩
 ·rw[if_neg c6] at H;have c6b0:decide (ab<0)=false:=decide_eq_false c6;clear c6;replace H:=bE H;obtain⟨aa,A7,H⟩:=H;go_wp2_with (first|(refine g_C 48 ?_;refine gL (some 8) Tryz.func48 #[.slice al ad.length ak,.int .i64 a1] ?_;(with_reducible refine(laws_heldByteS.calls ?side1 ?side2 Aq1.out).mono ?_);(case side1=>exact Zq44_1);(case side2=>exact HCq1.out);rintro e w' ⟨rfl,⟨nd,rfl⟩⟩;refine⟨_,rfl,?_⟩;obtain⟨hczq7,hczq8,hczq9,hczq10,hczq11,hczq12⟩:=cz6 BKq1.out;obtain⟨hfzq7,hfzq8,hfzq9,hfzq10,hfzq11,hfzq12⟩:=fz6 BKq1.out)|(refine g_C 48 ?_;refine g_D 14 ?_;generalize hG_:wpList _ _ _ _ _ _=G_))
  subst hG_
  by_cases c9:aa<0
  ·rw[if_pos c9] at H;have c9b0:decide (aa<0)=true:=decide_eq_true c9;clear c9;obtain rfl:=o_I H;go_wp2_with (first|(refine g_C 48 ?_;refine gL (some 14) Tryz.func48 #[.slice aj ac.length ah,.int .i64 ab] ?_;(with_reducible refine(laws_heldByteS.calls ?side1 ?side2 A7.out).mono ?_);(case side1=>exact Zq44_2);(case side2=>exact HCq2.out);rintro e w' ⟨rfl,⟨nd,rfl⟩⟩;refine⟨_,rfl,?_⟩))
   go_ret
   exact⟨TE,TB⟩
  ·rw[if_neg c9] at H;have c9b0:decide (aa<0)=false:=decide_eq_false c9;clear c9;replace H:=bE H;obtain⟨af,Aq2,H⟩:=H;go_wp2_with (first|(refine g_C 48 ?_;refine gL (some 14) Tryz.func48 #[.slice aj ac.length ah,.int .i64 ab] ?_;(with_reducible refine(laws_heldByteS.calls ?side1 ?side2 A7.out).mono ?_);(case side1=>exact Zq44_2);(case side2=>exact HCq2.out);rintro e w' ⟨rfl,⟨nd,rfl⟩⟩;refine⟨_,rfl,?_⟩;obtain⟨hczq13,hczq14,hczq15,hczq16,hczq17,hczq18⟩:=cz6 BKq1.out;obtain⟨hfzq13,hfzq14,hfzq15,hfzq16,hfzq17,hfzq18⟩:=fz6 BKq1.out)|(refine g_C 49 ?_;refine g_D 20 ?_;generalize hG_:wpList _ _ _ _ _ _=G_))
   subst hG_
   by_cases cq1:af<0
   ·rw[if_pos cq1] at H;have cq2:decide (af<0)=true:=decide_eq_true cq1;exact Yq44_0
   ·rw[if_neg cq1] at H;have cq2:decide (af<0)=false:=decide_eq_false cq1;exact Yq44_0
def spec_l9Copy.l0 :Nat→Int→List Int→List Int→Int→Int→Int→List (S91)→List Int→List Int→Int→Int→Int→List (S91)→Option (List Int×List Int×Int×Int×Int×(List (S91)))
  |0,_,_,_,_,_,_,_,_,_,_,_,_,_=>none
  |k+1,i,a,b,c,d,e,l,u,v,c',d',e',x=>if i<(l.length:Int) then (if 0≤i then ((spec_l9CopyPut.f ((rd_T91 l i).f0) ((rd_T91 l i).f1) ((rd_T91 l i).f2) ((rd_T91 l i).f3.f0) ((rd_T91 l i).f3.f1) ((rd_T91 l i).f3.f2)).bind fun p=>(if x.length<2199023255552 then (spec_l9Copy.l0 k (wrap64 (i+1)) a b c d e l u v c' d' e' (x++[(⟨p.1,p.2.1,p.2.2.1,(⟨p.2.2.2.1,p.2.2.2.2.1,p.2.2.2.2.2⟩:S36)⟩:S91)])) else (none))) else (none)) else (some (u,v,c',d',e',x))
def spec_l9Copy.f (k:Nat)(a:List Int)(b:List Int)(c:Int)(d:Int)(e:Int)(f:List (S91)):Option (List Int×List Int×Int×Int×Int×(List (S91))):=(some (([]:List Int):List Int)).bind fun y=>(if y.length+a.length<140737488355328 then ((some (([]:List Int):List Int)).bind fun z=>(if z.length+b.length<140737488355328 then (spec_l9Copy.l0 k 0 a b c d e f (y++a) (z++b) c d e (([]:List (S91)))) else (none))) else (none))
theorem spec_l9Copy.mono_l :∀k,(∀d e f g h i j l m n a b c,LeO (spec_l9Copy.l0 k d e f g h i j l m n a b c) (spec_l9Copy.l0 (k+1) d e f g h i j l m n a b c))
  |0=>fun _ _ _ _ _ _ _ _ _ _ _ _ _ r h=>by simp [spec_l9Copy.l0] at h
  | k+1=>by
    have ih0:=spec_l9Copy.mono_l k
    · intro y0 y1 y2 y3 y4 y5 y6 y7 y8 y9 y10 y11 y12
      unfold spec_l9Copy.l0
      exact LM
theorem spec_l9Copy.mono :∀a b c d e f k,LeO (spec_l9Copy.f k a b c d e f) (spec_l9Copy.f (k+1) a b c d e f):=by
  intro a0 a1 a2 a3 a4 a5 k;have ih0:=spec_l9Copy.mono_l k;unfold spec_l9Copy.f;exact LM
/-- Nothing, where something will be. -/
def nilI (base:Nat):Itm:=⟨base,base,fun _=>True,fun _ h=>h⟩
section
variable {α : Type} {d : Kd α} {e base x y : Nat} {w w1 : World} {v v1 : Value} {xs ys : List α} {L : List Itm} {ok : Nat → Prop}
/-- Behind an append to the first row. -/
theorem Sep.app (hE:d.E=[])(h:Sep base w (iRow d e base x y v xs :: L))(hB:base≤w.heap.size)(ho:d.R e w1 base ok v1 ys)(hg:w.grownBy w1 v.ownBlock)(hat:v1.ownBlock=v.ownBlock∨∃b,v1.ownBlock=some b∧w.heap.size≤b):∃x' y',Sep base w1 (iRow d e base x' y' v1 ys :: L):=by
  have h0:d.R e w base (fun k=>x≤k∧k<y) v xs:=h.p0;have hk:KeptR x y w w1:=⟨hg.size,fun k hk hn=>hg.block k hk (fun he=>by have:=h0.1 k he.symm;omega)⟩
  rcases hat with q|⟨b,q,hb⟩
  · exact⟨x,y,h.put hk (iRow d e base x y v1 ys) rfl rfl (Kd.R_reok hE ho (fun k he=>h0.1 k (q ▸ he)))⟩
  · exact⟨w.heap.size,w1.heap.size,⟨⟨⟨hB,hg.size,Nat.le_refl _,Kd.R_reok hE ho (fun k he=>⟨by have:=he.symm.trans q;injection this;omega,Kd.R_lt ho k he⟩)⟩,Dj.of_sep h.2 (Nat.le_refl _)⟩,h.2.keptR hk h.1.2⟩⟩
end
theorem ex_get {l:List Oper}{i:Nat}{o:Oper}{p:Oper→Prop}(h:l[i]?=some o)(hp:p o):∃o,l.toArray[i]?=some o∧p o:=⟨o,by simpa using h,hp⟩
theorem nilI_dj {base:Nat}{w:World}:∀{L:List Itm},Sep base w L→Dj base base L
  |[],_=>trivial
  |J :: L,h=>⟨.inr h.1.1.1,nilI_dj h.2⟩
theorem nilI_1 {base:Nat}{w:World}{L:List Itm}(hB:base≤w.heap.size)(h:Sep base w L):Sep base w (nilI base :: L):=⟨⟨⟨Nat.le_refl _,Nat.le_refl _,hB,trivial⟩,nilI_dj h⟩,h⟩
theorem nilI_4 {base:Nat}{w:World}{L:List Itm}(hB:base≤w.heap.size)(h:Sep base w L):Sep base w (nilI base :: nilI base :: nilI base :: nilI base :: L):=nilI_1 hB (nilI_1 hB (nilI_1 hB (nilI_1 hB h)))
theorem Dsk.of_sep {base xA yA xB yB xP yP:Nat}{w:World}{vA vB vP:Value}{lA lB:List Int}{lP:List S91}{L:List Itm}(h:Sep base w (iRow (Kd.int .u8) 5 base xA yA vA lA :: iRow (Kd.int .u8) 5 base xB yB vB lB :: iSow k91 91 base xP yP vP lP :: L)):Dsk w base vA vB vP lA lB lP:=by
  have hA:(Kd.int .u8).R 5 w base (fun k=>xA≤k∧k<yA) vA lA:=h.p0;have hB:(Kd.int .u8).R 5 w base (fun k=>xB≤k∧k<yB) vB lB:=h.p1;have hP:Kd.S k91 91 w base (fun k=>xP≤k∧k<yP) vP lP:=h.p2;have a1:yB≤xA∨yA≤xB:=h.1.2.1;have a2:yP≤xA∨yA≤xP:=h.1.2.2.1;have a3:yP≤xB∨yB≤xP:=h.2.1.2.1;exact⟨Kd.R_mono hA (fun k q e=>by have:=hB.1 k e.symm;omega),Kd.R_mono hB (fun k q e=>by have:=hA.1 k e.symm;omega),Kd.S_mono hP (fun k q=>⟨fun e=>by have:=hA.1 k e.symm;omega,fun e=>by have:=hB.1 k e.symm;omega⟩)⟩
/-- Behind an append to the rows of rows. -/
theorem Dsk.appP {w w1:World}{base:Nat}{vA vB vP v1:Value}{lA lB:List Int}{lP l1:List S91}(h:Dsk w base vA vB vP lA lB lP)(hg:w.grownBy w1 vP.ownBlock)(ho:Kd.S k91 91 w1 base (fun k=>some k≠vA.ownBlock∧some k≠vB.ownBlock) v1 l1):Dsk w1 base vA vB v1 lA lB l1:=
  ⟨Kd.R_over' h.1 (Kd.S_typed h.2.2) (by decide) hg,Kd.R_over' h.2.1 (Kd.S_typed h.2.2) (by decide) hg,ho⟩
structure spec_l9Copy.R1 where
  b0:Bool
  b3:Bool
  b4:Bool
  b7:Bool
  b10:Bool
  b11:Bool
  b12:Bool
  b13:Bool
  v6:Value
  v9:Value
  v10:Value
  v13:Value
  v16:Value
  v17:Value
  v3:Value
def spec_l9Copy.cons (g b h c d a e f:Bool):Bool:=(!b||g)&&(!c||h)&&(!a||(b&&c&&d))&&(!f||(a&&e))
theorem spec_l9Copy.cons_iff {b0 b3 b4 b7 b10 b11 b12 b13:Bool}:spec_l9Copy.cons b0 b3 b4 b7 b10 b11 b12 b13=true↔(b3=true→b0=true)∧(b7=true→b4=true)∧(b11=true→b3=true∧b7=true∧b10=true)∧(b13=true→b11=true∧b12=true):=by
  unfold spec_l9Copy.cons;cases b0<;>cases b3<;>cases b4<;>cases b7<;>cases b10<;>cases b11<;>cases b12<;>cases b13<;>decide
def spec_l9Copy.mask (e f g h a b c d:Bool):Array Bool:=#[e,true,true,f,g,true,true,h,true,true,a,b,c,d]
def spec_l9Copy.left (e f g h a b c d:Bool):Nat:=(!e).toNat+(!f).toNat+(!g).toNat+(!h).toNat+(!a).toNat+(!b).toNat+(!c).toNat+(!d).toNat
def spec_l9Copy.may (d e f g a b c h:Bool)(i:Nat):Bool:=(i==0&&!d)||(i==3&&d&&!e)||(i==4&&!f)||(i==7&&f&&!g)||(i==10&&!a)||(i==11&&e&&g&&a&&!b)||(i==12&&!c)||(i==13&&b&&c&&!h)
noncomputable def spec_l9Copy.chk (e f g h a b c d:Bool):Bool:=!(spec_l9Copy.cons e f g h a b c d)||((spec_l9Copy.left e f g h a b c d==0||!(Region.ready .any (opsOf Tryz.f30 1) (spec_l9Copy.mask e f g h a b c d)).isEmpty)&&(Region.ready .any (opsOf Tryz.f30 1) (spec_l9Copy.mask e f g h a b c d)).all (spec_l9Copy.may e f g h a b c d))
theorem all2_ {p:Bool→Bool}(h:[true,false].all p=true)(b:Bool):p b=true:=List.all_eq_true.1 h b (by cases b<;>simp)
theorem spec_l9Copy.chks :∀b0 b3 b4 b7 b10 b11 b12 b13,spec_l9Copy.chk b0 b3 b4 b7 b10 b11 b12 b13=true:=by
  have H:([true,false].all fun b0=>[true,false].all fun b3=>[true,false].all fun b4=>[true,false].all fun b7=>[true,false].all fun b10=>[true,false].all fun b11=>[true,false].all fun b12=>[true,false].all fun b13=>spec_l9Copy.chk b0 b3 b4 b7 b10 b11 b12 b13)=true:=by kernel_rfl
  intro b0 b3 b4 b7 b10 b11 b12 b13;exact all2_ (all2_ (all2_ (all2_ (all2_ (all2_ (all2_ (all2_ H b0) b3) b4) b7) b10) b11) b12) b13
theorem spec_l9Copy.calls {k:Nat}{ak:Option Addr}{aj:Nat}{ab:List Int}{ai:Option Addr}{ah:Nat}{aa:List Int}{ae:Int}{ag:Int}{af:Int}{al:Option Addr}{am:Nat}{ac:List (S91)}{r1:List Int}{r2:List Int}{r3:Int}{r4:Int}{r5:Int}{r6:List (S91)}{w:World}(aw:Kd.C (Kd.int .u8) w ak ab.length ab)(aA:ab.length≤aj)(az:Kd.C (Kd.int .u8) w ai aa.length aa)(ay:aa.length≤ah)(ax:Kd.C k91 w al ac.length ac)(aB:ac.length≤am)(h:spec_l9Copy.f k ab aa ae ag af ac=some (r1,r2,r3,r4,r5,r6)):
  Calls Tryz.prog 30 #[.agg #[.slice ak ab.length aj,.slice ai aa.length ah,.int .i64 ae,.int .i64 ag,.int .i64 af,.slice al ac.length am]] w fun e w'=>∃v0_ v1_ v5_:Value,e=.returned (.agg #[v0_,v1_,.int .i64 r3,.int .i64 r4,.int .i64 r5,v5_])∧Kd.R (Kd.int .u8) 5 w' w.heap.size (fun k_=>some k_≠(v1_:Value).ownBlock) v0_ r1∧Kd.R (Kd.int .u8) 5 w' w.heap.size (fun k_=>some k_≠(v0_:Value).ownBlock) v1_ r2∧Kd.S k91 91 w' w.heap.size (fun k_=>some k_≠(v0_:Value).ownBlock∧some k_≠(v1_:Value).ownBlock) v5_ r6∧Below w.heap.size w w':=by
 have huq1:=Tryz.underlying39;have huq2:=Tryz.underlying91;have huq3:=Tryz.underlying36;have HRq1:=aM (And.intro aw aA);have HRq2:=aM (And.intro az ay);have HRq3:=aM (And.intro ax aB);have HB:=aM (Below.refl w.heap.size w);have HS:=aM (show Sep w.heap.size w [] from trivial);clear aw aA az ay ax aB;unfold spec_l9Copy.f at h;simp only[Option.bind_some] at h;replace h:=ifN h;obtain⟨Lq1,h⟩:=h;replace h:=ifN h;obtain⟨Lq2,h⟩:=h;simp only[List.nil_append] at h;have Hq1:=aM h;have Lq3':=aM Lq1;have Lq4':=aM Lq2;clear h Lq1 Lq2;go_enter Tryz.func30,Tryz.ntmps30;go_wp2_with (first|(refine g_D 1 ?_;refine gBx 1 #[.slice ak ab.length aj,.slice ai aa.length ah,.int .i64 ae,.int .i64 ag,.int .i64 af,.slice al ac.length am] 39 ?_;intro gq1 hg wq1 hbox hb;replace HS:=aM (Sep.blk HS.out hb HB.out.size hg hbox);replace HB:=aM (below_step HB.out hb);clear hb hbox hg;(simp only[Act.put,List.setIfInBounds_toArray,List.set_cons_zero,List.set_cons_succ]))|(refine g_D 2 ?_;refine gBx 2 #[.slice none 0 0,.slice none 0 0,.int .i64 0,.int .i64 0,.int .i64 0,.slice none 0 0] 39 ?_;intro gq2 hg wq1 hbox hb;replace HS:=aM (Sep.blk HS.out hb HB.out.size hg hbox);replace HB:=aM (below_step HB.out hb);clear hb hbox hg;(simp only[Act.put,List.setIfInBounds_toArray,List.set_cons_zero,List.set_cons_succ])))
 replace HS:=aM (HS.out.below (bd1 rfl));replace HB:=aM (below_step HB.out (bd1 rfl));refine st_ (n:=14) (ds:=[]) (Array.replicate 14 false) (hK6 (blkP (Sep.p1 HS.out))) (by kernel_rfl) rfl rfl (fun hHeld=>?_);generalize hw_:World.drew _=wq2 at HS HB hHeld ⊢;clear hw_;refine ppq 1 7 ?_;refine ppq 5 11 ?_;refine ppq 8 14 ?_;refine ptq 2 8 ?_;refine ptq 6 12 ?_;refine ptq 9 15 ?_;clear hHeld;refine free_ (σ:=spec_l9Copy.R1) (fun s=>spec_l9Copy.mask s.b0 s.b3 s.b4 s.b7 s.b10 s.b11 s.b12 s.b13) (fun s=>{tmps:=#[.agg #[.slice ak ab.length aj,.slice ai aa.length ah,.int .i64 ae,.int .i64 ag,.int .i64 af,.slice al ac.length am],.pointer (some ⟨gq1,0,none⟩),.pointer (some ⟨gq2,0,none⟩),s.v3,undef,undef,s.v6,.pointer (some ⟨gq1,0,none⟩),.slice ak ab.length aj,s.v9,s.v10,.pointer (some ⟨gq1,1,none⟩),.slice ai aa.length ah,s.v13,.pointer (some ⟨gq1,2,none⟩),.agg #[.int .i64 ae,.int .i64 ag,.int .i64 af],s.v16,s.v17,undef,undef,undef,undef,undef,undef,undef,undef,undef,undef,undef,undef,undef,undef,undef,undef,undef,undef,undef,undef],defers:=[]}) (fun s=>spec_l9Copy.left s.b0 s.b3 s.b4 s.b7 s.b10 s.b11 s.b12 s.b13) (fun s W=>spec_l9Copy.cons s.b0 s.b3 s.b4 s.b7 s.b10 s.b11 s.b12 s.b13=true∧Below w.heap.size w W∧∃(xA yA xB yB xP yP gX:Nat),Sep w.heap.size W [(if s.b3=true then iRow (Kd.int .u8) 5 w.heap.size xA yA s.v9 ab else if s.b0=true then iRow (Kd.int .u8) 5 w.heap.size xA yA s.v6 [] else nilI w.heap.size),(if s.b7=true then iRow (Kd.int .u8) 5 w.heap.size xB yB s.v13 aa else if s.b4=true then iRow (Kd.int .u8) 5 w.heap.size xB yB s.v10 [] else nilI w.heap.size),(if s.b10=true then iSow k91 91 w.heap.size xP yP s.v16 [] else nilI w.heap.size),(if s.b12=true then iBlk gX (if s.b13=true then #[s.v9,s.v13,.int .i64 ae,.int .i64 ag,.int .i64 af,s.v16] else #[.slice none 0 0,.slice none 0 0,.int .i64 0,.int .i64 0,.int .i64 0,.slice none 0 0]) 39 else nilI w.heap.size),iBlk gq2 #[.slice none 0 0,.slice none 0 0,.int .i64 0,.int .i64 0,.int .i64 0,.slice none 0 0] 39,iBlk gq1 #[.slice ak ab.length aj,.slice ai aa.length ah,.int .i64 ae,.int .i64 ag,.int .i64 af,.slice al ac.length am] 39]∧(s.b11=true→s.v17=.agg #[s.v9,s.v13,.int .i64 ae,.int .i64 ag,.int .i64 af,s.v16])∧(s.b12=true→s.v3=.pointer (some ⟨gX,0,none⟩))) (n0:=0) ?hS ?hready ?hstep ?hcont 8 ⟨false,false,false,false,false,false,false,false,undef,undef,undef,undef,undef,undef,undef⟩ _ (by rfl) ?hI0
 case hS=>
  intro s W h;obtain⟨_,_,xA,yA,xB,yB,xP,yP,gX,hS,_,_⟩:=h;exact cz6 (blkP (Sep.p5 hS))
 case hready=>
  intro s W h hc;have hk:=spec_l9Copy.chks s.b0 s.b3 s.b4 s.b7 s.b10 s.b11 s.b12 s.b13;unfold spec_l9Copy.chk at hk;rw[h.1] at hk;simp only[Bool.not_true,Bool.false_or,Bool.and_eq_true,Bool.or_eq_true,beq_iff_eq,Bool.not_eq_true'] at hk
  rcases hk.1 with q|q
  ·exact absurd q hc
  ·intro e
   have q':(Region.ready .any (opsOf Tryz.f30 1) (spec_l9Copy.mask s.b0 s.b3 s.b4 s.b7 s.b10 s.b11 s.b12 s.b13)).isEmpty=true:=by
    rw[show Region.ready .any (opsOf Tryz.f30 1) (spec_l9Copy.mask s.b0 s.b3 s.b4 s.b7 s.b10 s.b11 s.b12 s.b13)=[] from e];rfl
   rw[q] at q';cases q'
 case hI0=>exact⟨rfl,HB.out,0,0,0,0,0,0,0,nilI_4 HB.out.size HS.out,(fun q=>by cases q),(fun q=>by cases q)⟩
 case hstep=>
  intro s W hI hcs i hi;obtain⟨b0,b3,b4,b7,b10,b11,b12,b13,v6,v9,v10,v13,v16,v17,v3⟩:=s;obtain⟨hc,hB,xA,yA,xB,yB,xP,yP,gX,hS,hq1,hq2⟩:=hI;dsimp only at hc hS hq1 hq2 hcs hi;have hk:=spec_l9Copy.chks b0 b3 b4 b7 b10 b11 b12 b13;unfold spec_l9Copy.chk at hk;rw[hc] at hk;simp only[Bool.not_true,Bool.false_or,Bool.and_eq_true] at hk;have hm:=List.all_eq_true.1 hk.2 i hi;clear hk hcs hi;obtain⟨k1,k2,k3,k4⟩:=spec_l9Copy.cons_iff.1 hc;clear hc;unfold spec_l9Copy.may at hm;simp only[Bool.or_eq_true,Bool.and_eq_true,beq_iff_eq,Bool.not_eq_true'] at hm
  rcases hm with ((((((h|h)|h)|h)|h)|h)|h)|h
  ·obtain⟨rfl,rfl⟩:=h;have e_:b3=false:=Bool.eq_false_iff.2 (fun q=>by have:=k1 q;simp at this);subst e_;have e_:b11=false:=Bool.eq_false_iff.2 (fun q=>by have:=k3 q;simp at this);subst e_;simp only[Bool.false_eq_true,if_false,if_true] at hS;refine⟨by simp,?_⟩;refine ex_get (by rfl) ?_;intro K hK;refine Kd.R_lit_step (Kd.int .u8) _ 5 ?hg (N:=6) ?hd (xs:=[]) (inner:=[]) (ok:=fun _=>True) (okp:=fun _=>True) ?hr ?hp (fun _ hk=>hk) trivial (Below.refl _ _) (Nat.le_refl _) (by simp) ?_;(case hd=>rfl);(case hg=>rfl);(case hr=>first|(go_simp;done)|(go_simp;rfl));(case hp=>exact(Reps.none _ _));intro v wq3 ho hb hg_ hnew_;have hS':=Sep.row hS.drop hb hB.size ho;refine hK.out ⟨true,false,b4,b7,b10,false,b12,b13,v,v9,v10,v13,v16,v17,v3⟩ wq3 ⟨spec_l9Copy.cons_iff.2 ⟨by first|exact k1|simp,by first|exact k2|simp,by first|exact k3|simp,by first|exact k4|simp⟩,below_step hB hb,W.heap.size,wq3.heap.size,xB,yB,xP,yP,gX,?_,(fun q=>by cases q),hq2⟩ (by simp [spec_l9Copy.mask]) (by simp [spec_l9Copy.left]<;>omega);simp only[Bool.false_eq_true,if_false,if_true];exact hS'
  ·obtain⟨⟨rfl,rfl⟩,rfl⟩:=h;have e_:b11=false:=Bool.eq_false_iff.2 (fun q=>by have:=k3 q;simp at this);subst e_;have e_:b13=false:=Bool.eq_false_iff.2 (fun q=>by have:=k4 q;simp at this);subst e_;simp only[Bool.false_eq_true,if_false,if_true] at hS;refine⟨by simp,?_⟩;refine ex_get (by rfl) ?_;intro K hK;refine Kd.R_append_rows_step (Kd.int .u8) (w0:=w) w.heap.size (by rfl) (.tmp 6) (.tmp 8) 22 5 (.int .u8 0) 1 rfl Tryz.underlying22 info5 rfl (by decide) (by omega) v6 [] ab _ _ _ (fun _=>True) (fun _=>False) rfl rfl ?aO (Kd.C_below HRq1.out.1 hB) (fun _ _ h=>h) (fun _ h=>h.elim) (fun _ _=>trivial) hB hB.size (by have:=Lq3'.out;simp only[List.length_nil] at this ⊢;omega) ?_
   case aO=>exact Kd.R_mono (show(Kd.int .u8).R 5 W w.heap.size (fun k=>xA≤k∧k<yA) v6 [] from hS.p0) (fun _ _=>trivial)
   intro v wq3 ho hb hg hat;rw[List.nil_append] at ho;obtain⟨x',y',hS'⟩:=Sep.app rfl hS hB.size ho hg hat;refine hK.out ⟨true,true,b4,b7,b10,false,b12,false,v6,v,v10,v13,v16,v17,v3⟩ wq3 ⟨spec_l9Copy.cons_iff.2 ⟨by first|exact k1|simp,by first|exact k2|simp,by first|exact k3|simp,by first|exact k4|simp⟩,hb,x',y',xB,yB,xP,yP,gX,?_,(fun q=>by cases q),hq2⟩ (by simp [spec_l9Copy.mask]) (by simp [spec_l9Copy.left]<;>omega);simp only[Bool.false_eq_true,if_false,if_true];exact hS'
  ·obtain⟨rfl,rfl⟩:=h;have e_:b7=false:=Bool.eq_false_iff.2 (fun q=>by have:=k2 q;simp at this);subst e_;have e_:b11=false:=Bool.eq_false_iff.2 (fun q=>by have:=k3 q;simp at this);subst e_;simp only[Bool.false_eq_true,if_false,if_true] at hS;refine⟨by simp,?_⟩;refine ex_get (by rfl) ?_;intro K hK;refine Kd.R_lit_step (Kd.int .u8) _ 5 ?hg (N:=10) ?hd (xs:=[]) (inner:=[]) (ok:=fun _=>True) (okp:=fun _=>True) ?hr ?hp (fun _ hk=>hk) trivial (Below.refl _ _) (Nat.le_refl _) (by simp) ?_;(case hd=>rfl);(case hg=>rfl);(case hr=>first|(go_simp;done)|(go_simp;rfl));(case hp=>exact(Reps.none _ _));intro v wq3 ho hb hg_ hnew_;have hS':=Sep.f1 (Sep.row hS.f1.drop hb hB.size ho);refine hK.out ⟨b0,b3,true,false,b10,false,b12,b13,v6,v9,v,v13,v16,v17,v3⟩ wq3 ⟨spec_l9Copy.cons_iff.2 ⟨by first|exact k1|simp,by first|exact k2|simp,by first|exact k3|simp,by first|exact k4|simp⟩,below_step hB hb,xA,yA,W.heap.size,wq3.heap.size,xP,yP,gX,?_,(fun q=>by cases q),hq2⟩ (by simp [spec_l9Copy.mask]) (by simp [spec_l9Copy.left]<;>omega);simp only[Bool.false_eq_true,if_false,if_true];exact hS'
  ·obtain⟨⟨rfl,rfl⟩,rfl⟩:=h;have e_:b11=false:=Bool.eq_false_iff.2 (fun q=>by have:=k3 q;simp at this);subst e_;have e_:b13=false:=Bool.eq_false_iff.2 (fun q=>by have:=k4 q;simp at this);subst e_;simp only[Bool.false_eq_true,if_false,if_true] at hS;refine⟨by simp,?_⟩;refine ex_get (by rfl) ?_;intro K hK;refine Kd.R_append_rows_step (Kd.int .u8) (w0:=w) w.heap.size (by rfl) (.tmp 10) (.tmp 12) 22 5 (.int .u8 0) 1 rfl Tryz.underlying22 info5 rfl (by decide) (by omega) v10 [] aa _ _ _ (fun _=>True) (fun _=>False) rfl rfl ?aO (Kd.C_below HRq2.out.1 hB) (fun _ _ h=>h) (fun _ h=>h.elim) (fun _ _=>trivial) hB hB.size (by have:=Lq4'.out;simp only[List.length_nil] at this ⊢;omega) ?_
   case aO=>exact Kd.R_mono (show(Kd.int .u8).R 5 W w.heap.size (fun k=>xB≤k∧k<yB) v10 [] from hS.p1) (fun _ _=>trivial)
   intro v wq3 ho hb hg hat;rw[List.nil_append] at ho;obtain⟨x',y',hS'⟩:=Sep.app rfl hS.f1 hB.size ho hg hat;refine hK.out ⟨b0,b3,true,true,b10,false,b12,false,v6,v9,v10,v,v16,v17,v3⟩ wq3 ⟨spec_l9Copy.cons_iff.2 ⟨by first|exact k1|simp,by first|exact k2|simp,by first|exact k3|simp,by first|exact k4|simp⟩,hb,xA,yA,x',y',xP,yP,gX,?_,(fun q=>by cases q),hq2⟩ (by simp [spec_l9Copy.mask]) (by simp [spec_l9Copy.left]<;>omega);simp only[Bool.false_eq_true,if_false,if_true];exact hS'.f1
  ·obtain⟨rfl,rfl⟩:=h;have e_:b11=false:=Bool.eq_false_iff.2 (fun q=>by have:=k3 q;simp at this);subst e_;have e_:b13=false:=Bool.eq_false_iff.2 (fun q=>by have:=k4 q;simp at this);subst e_;simp only[Bool.false_eq_true,if_false,if_true] at hS;refine⟨by simp,?_⟩;refine ex_get (by rfl) ?_;intro K hK;refine Kd.S_lit_step k91 _ 91 ?hg (N:=16) ?hd (xs:=[]) (inner:=[]) (ok:=fun _=>True) (okp:=fun _=>True) ?hr ?hp (fun _ hk=>hk) trivial (Below.refl _ _) (Nat.le_refl _) (by simp) ?_;(case hd=>rfl);(case hg=>rfl);(case hr=>first|(go_simp;done)|(go_simp;rfl));(case hp=>exact(Reps.none _ _));intro v wq3 ho hb hg_ hnew_;have hS':=Sep.f2 (Sep.f2 (Sep.sow hS.f2.drop hb hB.size ho));refine hK.out ⟨b0,b3,b4,b7,true,false,b12,false,v6,v9,v10,v13,v,v17,v3⟩ wq3 ⟨spec_l9Copy.cons_iff.2 ⟨by first|exact k1|simp,by first|exact k2|simp,by first|exact k3|simp,by first|exact k4|simp⟩,below_step hB hb,xA,yA,xB,yB,W.heap.size,wq3.heap.size,gX,?_,(fun q=>by cases q),hq2⟩ (by simp [spec_l9Copy.mask]) (by simp [spec_l9Copy.left]<;>omega);simp only[Bool.false_eq_true,if_false,if_true];exact hS'
  ·obtain⟨⟨⟨⟨rfl,rfl⟩,rfl⟩,rfl⟩,rfl⟩:=h;obtain rfl:=k1 rfl;obtain rfl:=k2 rfl;have e_:b13=false:=Bool.eq_false_iff.2 (fun q=>by have:=k4 q;simp at this);subst e_;simp only[Bool.false_eq_true,if_false,if_true] at hS;obtain⟨Aq1,cq1,eq1⟩:=Kd.R_slice (show(Kd.int .u8).R 5 W w.heap.size (fun k=>xA≤k∧k<yA) v9 ab from hS.p0);subst eq1;obtain⟨Aq2,cq2,eq2⟩:=Kd.R_slice (show(Kd.int .u8).R 5 W w.heap.size (fun k=>xB≤k∧k<yB) v13 aa from hS.p1);subst eq2;obtain⟨Aq3,cq3,eq3⟩:=Kd.S_slice (show Kd.S k91 91 W w.heap.size (fun k=>xP≤k∧k<yP) v16 [] from hS.p2);subst eq3;refine⟨by simp,?_⟩;refine ex_get (by rfl) ?_;intro K hK;refine value_ (v:=.agg #[.slice Aq1 ab.length cq1,.slice Aq2 aa.length cq2,.int .i64 ae,.int .i64 ag,.int .i64 af,.slice Aq3 ([]:List S91).length cq3]) (w1:=W) (by rfl) rfl (by first|(go_simp;done)|(go_simp;rfl)) ?_;refine hK.out ⟨true,true,true,true,true,true,b12,false,v6,.slice Aq1 ab.length cq1,v10,.slice Aq2 aa.length cq2,.slice Aq3 ([]:List S91).length cq3,.agg #[.slice Aq1 ab.length cq1,.slice Aq2 aa.length cq2,.int .i64 ae,.int .i64 ag,.int .i64 af,.slice Aq3 ([]:List S91).length cq3],v3⟩ W ⟨spec_l9Copy.cons_iff.2 ⟨by first|exact k1|simp,by first|exact k2|simp,by first|exact k3|simp,by first|exact k4|simp⟩,hB,xA,yA,xB,yB,xP,yP,gX,?_,(fun _=>rfl),hq2⟩ (by simp [spec_l9Copy.mask]) (by simp [spec_l9Copy.left]<;>omega);simp only[Bool.false_eq_true,if_false,if_true];exact hS
  ·obtain⟨rfl,rfl⟩:=h;have e_:b13=false:=Bool.eq_false_iff.2 (fun q=>by have:=k4 q;simp at this);subst e_;simp only[Bool.false_eq_true,if_false,if_true] at hS;refine⟨by simp,?_⟩;refine ex_get (by rfl) ?_;intro K hK;refine gBxS 3 #[.slice none 0 0,.slice none 0 0,.int .i64 0,.int .i64 0,.int .i64 0,.slice none 0 0] 39 ?_;intro g hg wq3 hbox hb;have hS':=Sep.f3 (Sep.f3 (Sep.f3 (Sep.blk hS.f3.drop hb hB.size hg hbox)));refine hK.out ⟨b0,b3,b4,b7,b10,b11,true,false,v6,v9,v10,v13,v16,v17,.pointer (some ⟨g,0,none⟩)⟩ wq3 ⟨spec_l9Copy.cons_iff.2 ⟨by first|exact k1|simp,by first|exact k2|simp,by first|exact k3|simp,by first|exact k4|simp⟩,below_step hB hb,xA,yA,xB,yB,xP,yP,g,?_,hq1,(fun _=>rfl)⟩ (by simp [spec_l9Copy.mask]) (by simp [spec_l9Copy.left]<;>omega);simp only[Bool.false_eq_true,if_false,if_true];exact hS'
  ·obtain⟨⟨⟨rfl,rfl⟩,rfl⟩,rfl⟩:=h;obtain⟨rfl,rfl,rfl⟩:=k3 rfl;obtain rfl:=k1 rfl;obtain rfl:=k2 rfl;simp only[Bool.false_eq_true,if_false,if_true] at hS;obtain rfl:=hq2 rfl;obtain rfl:=hq1 rfl;obtain⟨Aq1,cq1,eq1⟩:=Kd.R_slice (show(Kd.int .u8).R 5 W w.heap.size (fun k=>xA≤k∧k<yA) v9 ab from hS.p0);subst eq1;obtain⟨Aq2,cq2,eq2⟩:=Kd.R_slice (show(Kd.int .u8).R 5 W w.heap.size (fun k=>xB≤k∧k<yB) v13 aa from hS.p1);subst eq2;obtain⟨Aq3,cq3,eq3⟩:=Kd.S_slice (show Kd.S k91 91 W w.heap.size (fun k=>xP≤k∧k<yP) v16 [] from hS.p2);subst eq3;refine⟨by simp,?_⟩;refine ex_get (by rfl) ?_;intro K hK;refine gStS [.slice Aq1 ab.length cq1,.slice Aq2 aa.length cq2,.int .i64 ae,.int .i64 ag,.int .i64 af,.slice Aq3 ([]:List S91).length cq3] #[.slice Aq1 ab.length cq1,.slice Aq2 aa.length cq2,.int .i64 ae,.int .i64 ag,.int .i64 af,.slice Aq3 ([]:List S91).length cq3] (blkP (Sep.p3 hS)) ?_;intro wq3 hw hbox;have hb:=hw.below hB (Sep.r3 hS).1;have hS':=Sep.f3 (Sep.f3 (Sep.f3 (Sep.wr hS.f3 hw hbox)));refine hK.out ⟨true,true,true,true,true,true,true,true,v6,.slice Aq1 ab.length cq1,v10,.slice Aq2 aa.length cq2,.slice Aq3 ([]:List S91).length cq3,.agg #[.slice Aq1 ab.length cq1,.slice Aq2 aa.length cq2,.int .i64 ae,.int .i64 ag,.int .i64 af,.slice Aq3 ([]:List S91).length cq3],.pointer (some ⟨gX,0,none⟩)⟩ wq3 ⟨spec_l9Copy.cons_iff.2 ⟨by first|exact k1|simp,by first|exact k2|simp,by first|exact k3|simp,by first|exact k4|simp⟩,hb,xA,yA,xB,yB,xP,yP,gX,?_,(fun _=>rfl),(fun _=>rfl)⟩ (by simp [spec_l9Copy.mask]) (by simp [spec_l9Copy.left]<;>omega);simp only[Bool.false_eq_true,if_false,if_true];exact hS'
 case hcont=>
  intro s W hI hc;obtain⟨b0,b3,b4,b7,b10,b11,b12,b13,v6,v9,v10,v13,v16,v17,v3⟩:=s;obtain⟨hc',hB,xA,yA,xB,yB,xP,yP,gX,hS,hq1,hq2⟩:=hI;dsimp only at hc' hS hq1 hq2 hc
  obtain⟨rfl,rfl,rfl,rfl,rfl,rfl,rfl,rfl⟩:b0=true∧b3=true∧b4=true∧b7=true∧b10=true∧b11=true∧b12=true∧b13=true:=by
   unfold spec_l9Copy.left at hc;have z:∀b:Bool,(!b).toNat=0→b=true:=by decide
   exact⟨z _ (by omega),z _ (by omega),z _ (by omega),z _ (by omega),z _ (by omega),z _ (by omega),z _ (by omega),z _ (by omega)⟩
  clear hc hc';simp only[Bool.false_eq_true,if_false,if_true] at hS;obtain rfl:=hq2 rfl;obtain rfl:=hq1 rfl;clear hq2 hq1;obtain⟨Aq1,cq1,eq1⟩:=Kd.R_slice (show(Kd.int .u8).R 5 W w.heap.size (fun k=>xA≤k∧k<yA) v9 ab from hS.p0);subst eq1;obtain⟨Aq2,cq2,eq2⟩:=Kd.R_slice (show(Kd.int .u8).R 5 W w.heap.size (fun k=>xB≤k∧k<yB) v13 aa from hS.p1);subst eq2;obtain⟨Aq3,cq3,eq3⟩:=Kd.S_slice (show Kd.S k91 91 W w.heap.size (fun k=>xP≤k∧k<yP) v16 [] from hS.p2);subst eq3;have HD:=aM (Dsk.of_sep hS);have Bq1:=aM (blkP (Sep.p3 hS));have Bq2:=aM (blkP (Sep.p4 hS));have Bq3:=aM (blkP (Sep.p5 hS));have HGq1:=aM (show w.heap.size≤gX from(Sep.r3 hS).1);have HGq2:=aM (show w.heap.size≤gq2 from(Sep.r4 hS).1);have qq1:gq2+1≤gX∨gX+1≤gq2:=hS.2.2.2.1.2.1;have qq2:gq1+1≤gX∨gX+1≤gq1:=hS.2.2.2.1.2.2.1;have Nq1:=aM (show gq2≠gX by omega);have Nq2:=aM (show gq1≠gX by omega);replace HB:=aM hB;clear hS hB HS qq1 qq2;refine done_ (by kernel_rfl) ?_;try go_wp2
  go_loopg [4] k (fun kq vq1 w'=>∃(i:Int) (Aq3:Option Addr) (cq3:Nat) (x:List S91),vq1=.int .i64 i∧Aside0 (spec_l9Copy.l0 kq i ab aa ae ag af ac ab aa ae ag af x=some (r1,r2,r3,r4,r5,r6))∧Aside0 (kq≤k)∧Aside0 (w'.heap[gX]?=some (.cells #[.slice Aq1 ab.length cq1,.slice Aq2 aa.length cq2,.int .i64 ae,.int .i64 ag,.int .i64 af,.slice Aq3 x.length cq3] 39 (0,0)))∧Aside0 (w'.heap[gq2]?=some (.cells #[.slice none 0 0,.slice none 0 0,.int .i64 0,.int .i64 0,.int .i64 0,.slice none 0 0] 39 (0,0)))∧Aside0 (w'.heap[gq1]?=some (.cells #[.slice ak ab.length aj,.slice ai aa.length ah,.int .i64 ae,.int .i64 ag,.int .i64 af,.slice al ac.length am] 39 (0,0)))∧Aside0 (Dsk w' w.heap.size (.slice Aq1 ab.length cq1) (.slice Aq2 aa.length cq2) (.slice Aq3 x.length cq3) ab aa x)∧Aside0 (Below w.heap.size w w'))
  case atStart=>exact⟨0,Aq3,cq3,[],rfl,Hq1,⟨Nat.le_refl _⟩,Bq1,Bq2,Bq3,HD,HB⟩
  case round=>
   clear Hq1 Bq1 Bq2 Bq3 HD HB;obtain⟨i,Aq3,cq3,x,rfl,HA,HKq1,Bq1,Bq2,Bq3,HD,HB⟩:=hrel;cases gk with
   |zero=>exact absurd HA.out (by simp [spec_l9Copy.l0])
   | succ k1=>
    have H:=HA.out;clear HA;simp only[spec_l9Copy.l0] at H;obtain⟨hczq1,hczq2,hczq3,hczq4,hczq5,hczq6⟩:=cz6 Bq3.out
    by_cases cq4:i<(ac.length:Int)
    ·rw[if_pos cq4] at H;have cq5:decide (i<(ac.length:Int))=true:=decide_eq_true cq4;replace H:=ifN H;obtain⟨cq6,H⟩:=H;replace H:=bE H;obtain⟨⟨tq1,tq2,tq3,tq4,tq5,tq6⟩,Aq4,H⟩:=H;dsimp only at Aq4 H;replace H:=ifN H;obtain⟨cx,H⟩:=H;have LX:=aM cx;have H':=aM H;clear H cx;obtain⟨ad,Aq5,cq7,eq4,ar,aq,ap,ao,au,av,hlq1,hiq1⟩:=at_T91 HRq3.out.1 i cq6 cq4;cases eq4;replace ar:=(HB.out.cell (World.block_lt_of_cell? w _ ar)).trans ar;replace aq:=(HB.out.cell (World.block_lt_of_cell? w _ aq)).trans aq;replace ap:=(HB.out.cell (World.block_lt_of_cell? w _ ap)).trans ap;replace ao:=(HB.out.cell (World.block_lt_of_cell? w _ ao)).trans ao;replace au:=(HB.out.cell (World.block_lt_of_cell? w _ au)).trans au;replace av:=(HB.out.cell (World.block_lt_of_cell? w _ av)).trans av;have HEq1:=aM (And.intro hiq1 hlq1);clear hiq1 hlq1;have p0:(0≤i)=True:=eq_true cq6;have qq3:(i<(ac.length:Int))=True:=eq_true cq4;have cq8:decide (0≤i)=true:=decide_eq_true cq6;clear cq4 cq6;go_wp2_with (first|(refine g_C 61 ?_;refine gL (some 30) Tryz.func61 #[.agg #[.int .i64 (rd_T91 ac i).f0,.int .i64 (rd_T91 ac i).f1,.slice Aq5 (rd_T91 ac i).f2.length cq7,.int .i64 (rd_T91 ac i).f3.f0,.int .i64 (rd_T91 ac i).f3.f1,.int .i64 (rd_T91 ac i).f3.f2]] ?_;refine(spec_l9CopyPut.calls (Kd.C_below HEq1.out.1 HB.out) HEq1.out.2 Aq4.out).mono ?_;rintro e_ wq3 ⟨vq2,rfl,ho,hb⟩;refine⟨_,rfl,?_⟩;have hn:=Kd.R_base ho;obtain⟨Aq6,cq9,eq5⟩:=Kd.R_slice ho;subst eq5;have HQ:=aM (show Kd.S k91 91 _ w.heap.size (fun k=>(some k≠(Value.slice Aq1 ab.length cq1).ownBlock∧some k≠(Value.slice Aq2 aa.length cq2).ownBlock)∧¬some k=(Value.slice Aq6 tq3.length cq9).ownBlock) (.slice Aq3 x.length cq3) x from Kd.S_mono (Kd.S_below (Kd.S_bound HD.out.2.2) hb) (fun k q=>⟨q.1,fun e=>by have:=hn k e.symm;have:=q.2.2.1;omega⟩));have HE:=aM (show(Kd.int .u8).R 5 _ w.heap.size (fun k=>(some k≠(Value.slice Aq1 ab.length cq1).ownBlock∧some k≠(Value.slice Aq2 aa.length cq2).ownBlock)∧some k≠(Value.slice Aq3 x.length cq3).ownBlock) (.slice Aq6 tq3.length cq9) tq3 from Kd.R_lower (Kd.R_mono (Kd.R_bound ho) (fun k q=>⟨⟨fun e=>by have:=Kd.R_lt HD.out.1 k e.symm;have:=q.2.1;omega,fun e=>by have:=Kd.R_lt HD.out.2.1 k e.symm;have:=q.2.1;omega⟩,fun e=>by have:=Kd.S_lt HD.out.2.2 k e.symm;have:=q.2.1;omega⟩)) HB.out.size);replace HD:=aM (HD.out.below hb);replace Bq2:=aM (blk_below Bq2.out hb);replace Bq1:=aM (blk_below Bq1.out hb);replace Bq3:=aM (blk_below Bq3.out hb);replace HB:=aM (below_step HB.out hb);clear ho hb hn hczq1 hczq2 hczq3 hczq4 hczq5 hczq6 ar aq ap ao au av;(simp only[Act.put,List.setIfInBounds_toArray,List.set_cons_zero,List.set_cons_succ]))|(refine g_D 5 ?_;refine gBx 5 #[.int .i64 0,.int .i64 0,.slice none 0 0,.int .i64 0,.int .i64 0,.int .i64 0] 91 ?_;intro gq3 hg wq1 hbox hb;have Bq4:=aM hbox;have HNq1:=aM (show _≤gq3 from(Nat.le_of_eq hg.symm));have HWq1:=aM hb;clear hb hbox hg;(simp only[Act.put,List.setIfInBounds_toArray,List.set_cons_zero,List.set_cons_succ]))|((with_reducible refine gate_store (t:=91) (p:=5) rfl ?_);refine gSt [.int .i64 tq1,.int .i64 tq2,.slice Aq6 tq3.length cq9,.int .i64 tq4,.int .i64 tq5,.int .i64 tq6] #[.int .i64 tq1,.int .i64 tq2,.slice Aq6 tq3.length cq9,.int .i64 tq4,.int .i64 tq5,.int .i64 tq6] Bq4.out ?_;intro wq4 hw hbox;have hb:=hw.below HWq1.out HNq1.out;replace Bq4:=aM hbox;replace HD:=aM (HD.out.below hb);replace HQ:=aM (Kd.S_below HQ.out hb);replace HE:=aM (Kd.R_below HE.out hb);replace Bq2:=aM (blk_below Bq2.out hb);replace Bq1:=aM (blk_below Bq1.out hb);replace Bq3:=aM (blk_below Bq3.out hb);replace HB:=aM (below_step HB.out hb);clear hw hbox hb HWq1 HNq1;obtain⟨hcyq1,hcyq2,hcyq3,hcyq4,hcyq5,hcyq6⟩:=cz6 Bq1.out)|(refine g_D 33 ?_;refine gLd 33 Bq4.out ?_;(simp only[Act.put,List.setIfInBounds_toArray,List.set_cons_zero,List.set_cons_succ]))|((with_reducible refine gate_builtin (b:=.append) (xs:=#[.tmp 32,.tmp 34]) rfl ?_);at_builtin;refine Kd.S_append k91 (w0:=w) w.heap.size rfl (.tmp 32) (.tmp 34) 37 91 (.agg #[(.int .i64 0),(.int .i64 0),(.slice none 0 0),(.int .i64 0),(.int .i64 0),(.int .i64 0)]) 64 rfl Tryz.underlying37 info91 rfl (by decide) (by omega) (.slice Aq3 x.length cq3) x (⟨tq1,tq2,tq3,(⟨tq4,tq5,tq6⟩:S36)⟩:S91) [.int .i64 tq1,.int .i64 tq2,.slice Aq6 tq3.length cq9,.int .i64 tq4,.int .i64 tq5,.int .i64 tq6] (fun k=>(some k≠(Value.slice Aq1 ab.length cq1).ownBlock∧some k≠(Value.slice Aq2 aa.length cq2).ownBlock)) (fun k=>some k=(Value.slice Aq6 tq3.length cq9).ownBlock) rfl rfl (k91_mkM _ _ _ (⟨tq1,tq2,tq3,(⟨tq4,tq5,tq6⟩:S36)⟩:S91) (Kd.R_mono (Kd.R_tight rfl HE.out) (fun _ h_=>h_))) (fun k q=>HE.out.1 k q.symm) (fun k q=>⟨fun e=>by have:=Kd.R_lt HD.out.1 k e.symm;omega,fun e=>by have:=Kd.R_lt HD.out.2.1 k e.symm;omega⟩) HQ.out HB.out HB.out.size (by have:=LX.out;omega) ?_;intro v1 wq5 ho hb hg hat;replace Bq2:=aM (blk_grown Bq2.out hg (Kd.S_ne HD.out.2.2 Bq2.out (by decide)));replace Bq1:=aM (blk_grown Bq1.out hg (Kd.S_ne HD.out.2.2 Bq1.out (by decide)));replace Bq3:=aM (blk_grown Bq3.out hg (Kd.S_ne HD.out.2.2 Bq3.out (by decide)));replace HD:=aM (Dsk.appP HD.out hg ho);replace HB:=aM hb;clear ho hb hg hat HQ HE Bq4 hcyq1 hcyq2 hcyq3 hcyq4 hcyq5 hcyq6;obtain⟨Aq7,cq10,eq6⟩:=Kd.S_slice HD.out.2.2;rw[List.length_append] at eq6;replace eq6:v1=.slice Aq7 (x.length+1) cq10:=eq6;subst eq6)|((with_reducible refine gate_store (t:=37) (p:=36) rfl ?_);refine gSt [.slice Aq7 (x.length+1) cq10] #[.slice Aq1 ab.length cq1,.slice Aq2 aa.length cq2,.int .i64 ae,.int .i64 ag,.int .i64 af,.slice Aq7 (x.length+1) cq10] Bq1.out ?_;intro wq6 hw hbox;replace HD:=aM (HD.out.off Bq1.out hw);replace Bq1:=aM hbox;replace Bq2:=aM ((hw.2.2 gq2 Nq1.out).trans Bq2.out);replace Bq3:=aM ((hw.2.2 gq1 Nq2.out).trans Bq3.out);replace HB:=aM (hw.below HB.out HGq1.out);clear hw hbox))
     go_roundg k1
     case measure=>have:=HKq1.out;omega
     case rel=>exact⟨_,Aq7,cq10,x++[_],rfl,H',⟨by have:=HKq1.out;omega⟩,⟨by rw[List.length_append];exact Bq1.out⟩,Bq2,Bq3,⟨by rw[List.length_append];exact HD.out⟩,HB⟩
    ·rw[if_neg cq4] at H;have cq5:decide (i<(ac.length:Int))=false:=decide_eq_false cq4;clear cq4;obtain⟨rfl,rfl,rfl,rfl,rfl,rfl⟩:ab=r1∧aa=r2∧ae=r3∧ag=r4∧af=r5∧x=r6:=by simpa using H
     clear H;go_wp2_with (first|(refine g_D 37 ?_;refine gLd 37 Bq1.out ?_;(simp only[Act.put,List.setIfInBounds_toArray,List.set_cons_zero,List.set_cons_succ]))|((with_reducible refine gate_store (t:=39) (p:=2) rfl ?_);refine gSt [.slice Aq1 ab.length cq1,.slice Aq2 aa.length cq2,.int .i64 ae,.int .i64 ag,.int .i64 af,.slice Aq3 x.length cq3] #[.slice Aq1 ab.length cq1,.slice Aq2 aa.length cq2,.int .i64 ae,.int .i64 ag,.int .i64 af,.slice Aq3 x.length cq3] Bq2.out ?_;intro wq3 hw hbox;replace HD:=aM (HD.out.off Bq2.out hw);replace Bq2:=aM hbox;replace HB:=aM (hw.below HB.out HGq2.out);clear hw hbox))
     refine bodyPost_ret (results_cell_row rfl _ _ gq2 39 _ (0,0) _ rfl Bq2.out huq1 rfl (by kernel_rfl)) rfl ?_;exact⟨_,_,_,rfl,HD.out.1,HD.out.2.1,HD.out.2.2,HB.out⟩
theorem eqA36 (d:Nat)(w:World)(x0 y0:Int)(x1 y1:Int)(x2 y2:Int):
    (Op.equalIn (d+2) 36 (.agg #[.int .i64 x0,.int .i64 x1,.int .i64 x2]) (.agg #[.int .i64 y0,.int .i64 y1,.int .i64 y2])).run Tryz.prog w=.ok (x0==y0&&(x1==y1&&(x2==y2))) w:=by
  refine eqA_of Tryz.underlying36 (by kernel_rfl) ?_
  refine eqf_cons (by rfl) (by go_simp;rfl) (by go_simp;rfl) (by go_simp) ?_
  refine eqf_cons (by rfl) (by go_simp;rfl) (by go_simp;rfl) (by go_simp) ?_
  exact eqf_last (by rfl) (by go_simp;rfl) (by go_simp;rfl) (by go_simp)
end Go.Proofs.YtjgmkkogmfogbaaGreat.Q
