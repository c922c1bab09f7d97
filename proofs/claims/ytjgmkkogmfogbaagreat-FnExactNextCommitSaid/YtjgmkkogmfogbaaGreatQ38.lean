/- Functions of the program as plain Lean functions, and that a call of each comes to what its function tells. -/
import Derived.Test.YtjgmkkogmfogbaaGreatQ5
import Derived.Test.YtjgmkkogmfogbaaGreatQ1
import Derived.Test.YtjgmkkogmfogbaaGreatQ32
import Derived.Test.YtjgmkkogmfogbaaGreatQ35
set_option maxHeartbeats 40000000
set_option maxRecDepth 100000
namespace Go.Proofs.YtjgmkkogmfogbaaGreat.Q
open Go.RowKit Go.Proofs.YtjgmkkogmfogbaaGreatW.PrintWords Go.Proofs.YtjgmkkogmfogbaaGreatW.PrintLast Go.Proofs.YtjgmkkogmfogbaaGreatW.PrintMore
attribute [local go_sem] min2_int min_two
set_option linter.unusedVariables false
set_option linter.unusedSimpArgs false
def impl_Sure_1.f (a0:Int):Option (Bool):=some true
theorem impl_Sure_1.calls {a0:Int}{r:Bool}{w:World}(h:impl_Sure_1.f a0=some r):
    Calls Tryz.prog 72 #[.int .i64 a0] w fun e w'=>e=.returned (.bool r)∧Drawn0 w w':=by
  have H:=h
  clear h
  unfold impl_Sure_1.f at H
  obtain rfl:=o_I H
  go_enter Tryz.func72,Tryz.ntmps72
  go_wp2
  go_ret
  exact⟨by first|rfl|(simp;done)|(simp [*];done),TD⟩
def impl_Disk_perform.l0 :Nat→List Int→Int→Option (List Int)
  |0,_,_=>none
  |k+1,s,n=>if (s.length:Int)<n then (if s.length<140737488355328 then impl_Disk_perform.l0 k (s++[0]) n else none) else some s
/-- b laid over s from at_ on. -/
def cut_ (s:List Int)(at_:Int)(b:List Int):Option (List Int):=if 0≤at_∧at_+b.length≤s.length then some (s.take at_.toNat++b++s.drop (at_.toNat+b.length)) else none
theorem cut_some {s:List Int}{a:Int}{b l:List Int}(h:cut_ s a b=some l):0≤a∧a+b.length≤s.length∧l=s.take a.toNat++b++s.drop (a.toNat+b.length):=by
  unfold cut_ at h
  split at h
  · rename_i q
    exact⟨q.1,q.2,(Option.some.inj h).symm⟩
  · cases h
theorem impl_Disk_perform.case0 (k:Nat)(g:Nat)(vA vB vP:Value)(lA lB:List Int)(lP:List S91)(gen slt len:Int)(what at_:Int)(Ab:Option Addr)(cb:Nat)(lb:List Int)(rg rs rl:Int)(l1 l2:List Int)(w0 w:World)
    (hB:Below w0.heap.size w0 w) (hg:w0.heap.size≤g) (hG:w.heap[g]?=some (.cells #[vA,vB,.int .i64 gen,.int .i64 slt,.int .i64 len,vP] 39 (0,0))) (hD:Dsk w w0.heap.size vA vB vP lA lB lP)
    (hr:Kd.C (Kd.int .u8) w0 Ab lb.length lb) (hc:lb.length≤cb) (hw:¬what=2) (ho:impl_Disk_slot.f what 0=some ()) (h1:impl_Disk_perform.l0 k lA (wrap64 (at_+lb.length))=some l1) (h2:cut_ l1 at_ lb=some l2):
    Calls Tryz.prog 111 #[.pointer (some ⟨g,0,none⟩),.agg #[.int .i64 what,.int .i64 at_,.slice Ab lb.length cb,.int .i64 rg,.int .i64 rs,.int .i64 rl]] w fun e w'=>e=.returned (.tuple #[])∧∃v,w'.heap[g]?=some (.cells #[v,vB,.int .i64 gen,.int .i64 slt,.int .i64 len,vP] 39 (0,0))∧Dsk w' w0.heap.size v vB vP l2 lB lP∧Below w0.heap.size w0 w'∧Kept w w' (fun k=>k=g∨some k=vA.ownBlock):=by
  have hu91:=Tryz.underlying91
  have HB:=aM hB
  have HG:=aM hG
  have HD:=aM hD
  have HK:=aM (Kept.refl w (fun k=>k=g∨some k=vA.ownBlock))
  have HR:=aM hr
  have HC:=aM hc
  have HW:=aM hg
  have H1:=aM h1
  have H2:=aM h2
  have HO:=aM ho
  have c1:(what==2)=false:=beq_eq_false_iff_ne.mpr hw
  clear hB hG hD hr hc hg h1 h2 ho hw
  go_enter Tryz.func111,Tryz.ntmps111
  go_wp2_with (first|(refine g_D 3 ?_;refine gBx 3 #[.int .i64 what,.int .i64 at_,.slice Ab lb.length cb,.int .i64 rg,.int .i64 rs,.int .i64 rl] 91 ?_;intro gp hgp w2 hbox hb;have HP:=aM hbox;have HN:=aM (show g≠gp from fun e=>by have:=(Array.getElem?_eq_some_iff.1 HG.out).1;omega);have HS:=aM (show w.heap.size≤gp from by have:=HK.out.1;omega);replace HB:=aM (below_step HB.out hb);replace HG:=aM (blk_below HG.out hb);replace HD:=aM (HD.out.below hb);replace HK:=aM (HK.out.below hb);clear hb hbox hgp;obtain⟨hcz0,hcz1,hcz2,hcz3,hcz4,hcz5⟩:=cz6 HP.out)|(refine g_C 102 ?_;refine gL (some 16) Tryz.func102 #[.pointer (some ⟨g,0,none⟩),.int .i64 what] ?_;refine(impl_Disk_slot.calls _ HO.out).mono ?_;rintro e w3 ⟨rfl,hd⟩;refine⟨_,rfl,?_⟩;have hb:=hd.below;replace HB:=aM (below_step HB.out hb);replace HG:=aM (blk_below HG.out hb);replace HP:=aM (blk_below HP.out hb);replace HD:=aM (HD.out.below hb);replace HK:=aM (HK.out.below hb);clear hb hd))
  clear hcz0 hcz1 hcz2 hcz3 hcz4 hcz5
  go_loopg [17] k (fun kq v17 w'=>∃(v:Value) (x:List Int),Aside0 (impl_Disk_perform.l0 kq x (wrap64 (at_+lb.length))=some l1)∧Aside0 (kq≤k)∧Aside0 (w'.heap[g]?=some (.cells #[v,vB,.int .i64 gen,.int .i64 slt,.int .i64 len,vP] 39 (0,0)))∧Aside0 (w'.heap[gp]?=some (.cells #[.int .i64 what,.int .i64 at_,.slice Ab lb.length cb,.int .i64 rg,.int .i64 rs,.int .i64 rl] 91 (0,0)))∧Aside0 (Dsk w' w0.heap.size v vB vP x lB lP)∧Aside0 (v.ownBlock=vA.ownBlock∨∃b,v.ownBlock=some b∧w.heap.size≤b)∧Aside0 (Kept w w' (fun k=>k=g∨some k=vA.ownBlock))∧Aside0 (Below w0.heap.size w0 w'))
  case atStart=>exact⟨vA,lA,H1,⟨Nat.le_refl _⟩,HG,HP,HD,⟨.inl rfl⟩,HK,HB⟩
  case round=>
    clear H1 HG HP HD HK HB
    obtain⟨v,x,HA,HK1,HG,HP,HD,HV,HK,HB⟩:=hrel
    cases gk with
    |zero=>exact absurd HA.out (by simp [impl_Disk_perform.l0])
    | succ k1=>
      have H:=HA.out
      clear HA
      simp only[impl_Disk_perform.l0] at H
      obtain⟨hcz0,hcz1,hcz2,hcz3,hcz4,hcz5⟩:=cz6 HP.out
      obtain⟨hcy0,hcy1,hcy2,hcy3,hcy4,hcy5⟩:=cz6 HG.out
      obtain⟨A1,cA1,hv⟩:=Kd.R_slice HD.out.1
      subst hv
      by_cases c3:(x.length:Int)<wrap64 (at_+lb.length)
      · rw[if_pos c3] at H
        have c3b:decide ((x.length:Int)<wrap64 (at_+lb.length))=true:=decide_eq_true c3
        clear c3
        replace H:=ifN H
        obtain⟨c4,H⟩:=H
        have H':=aM H
        have LM:=aM c4
        clear H c4
        go_wp2_with (first|fail)
        go_quiet (fail)
        clear hcz0 hcz1 hcz2 hcz3 hcz4 hcz5 hcy0 hcy1 hcy2 hcy3 hcy4 hcy5
        generalize hw3:World.drewN _ _=w3
        have hb:=bdN hw3
        clear hw3
        replace HB:=aM (below_step HB.out hb)
        replace HG:=aM (blk_below HG.out hb)
        replace HP:=aM (blk_below HP.out hb)
        replace HD:=aM (HD.out.below hb)
        replace HK:=aM (HK.out.below hb)
        clear hb
        obtain⟨hcy0,hcy1,hcy2,hcy3,hcy4,hcy5⟩:=cz6 HG.out
        go_wp2_with (first|((with_reducible refine gate_builtin (b:=.append) (xs:=#[.tmp 31,.tmp 32]) rfl ?_);at_builtin;refine Kd.R_append (Kd.int .u8) (w0:=w0) w0.heap.size rfl (.tmp 31) (.tmp 32) 22 5 (.int .u8 0) 1 rfl Tryz.underlying22 info5 rfl (by decide) (by omega) (.slice A1 x.length cA1) x 0 [.int .u8 0] (fun k=>some k≠vB.ownBlock) (fun _=>False) rfl rfl rfl (fun _ hk=>hk.elim) (Kd.fresh' (Kd.R_lt HD.out.2.1)) HD.out.1 HB.out HB.out.size (by have:=LM.out;omega) ?_;intro v1 w4 ho hb hg hat;have hz:=HK.out.1;replace HK:=aM (Kept.of_grown hg HK.out (fun k e=>HV.out.elim (fun q=>.inl (.inr (e.symm.trans q))) (fun ⟨b,q1,q2⟩=>.inr (by have:=e.symm.trans q1;injection this;omega))));replace HV:=aM (own_then HV.out HK.out.1 hat hg hz);replace HG:=aM (blk_grown HG.out hg (Kd.R_ne HD.out.1 HG.out (by decide)));replace HP:=aM (blk_grown HP.out hg (Kd.R_ne HD.out.1 HP.out (by decide)));replace HD:=aM (Dsk.app HD.out hg hat ho);replace HB:=aM hb;clear ho hb hg hat hz;obtain⟨A2,cA2,hv2⟩:=Kd.R_slice HD.out.1;rw[List.length_append] at hv2;replace hv2:v1=.slice A2 (x.length+1) cA2:=hv2;subst hv2)|((with_reducible refine gate_store (t:=22) (p:=34) rfl ?_);go_loud (refine gSt [.slice A2 (x.length+1) cA2] #[.slice A2 (x.length+1) cA2,vB,.int .i64 gen,.int .i64 slt,.int .i64 len,vP] HG.out ?_);intro w5 hw hbox;replace HP:=aM ((hw.2.2 gp (fun e=>HN.out e.symm)).trans HP.out);replace HD:=aM (HD.out.off HG.out hw);replace HG:=aM hbox;replace HK:=aM (HK.out.then_ hw.kept (fun k e=>.inl (.inl e)));replace HB:=aM (hw.below HB.out HW.out);clear hw hbox))
        go_roundg k1
        case measure=>have:=HK1.out;omega
        case rel=>exact⟨_,_,H',⟨by have:=HK1.out;omega⟩,HG,HP,HD,HV,HK,HB⟩
      · rw[if_neg c3] at H
        have c3b:decide ((x.length:Int)<wrap64 (at_+lb.length))=false:=decide_eq_false c3
        clear c3
        obtain rfl:=o_I H
        clear H
        go_wp2_with (first|fail)
        go_quiet (fail)
        clear hcz0 hcz1 hcz2 hcz3 hcz4 hcz5 hcy0 hcy1 hcy2 hcy3 hcy4 hcy5
        generalize hw3:World.drewN _ _=w3
        have hb:=bdN hw3
        clear hw3
        replace HB:=aM (below_step HB.out hb)
        replace HG:=aM (blk_below HG.out hb)
        replace HP:=aM (blk_below HP.out hb)
        replace HD:=aM (HD.out.below hb)
        replace HK:=aM (HK.out.below hb)
        clear hb
        go_wp2_with (first|fail)
        go_wp2_with (first|fail)
        have hq:=cut_some H2.out
        obtain⟨q0,q1,q2⟩:=hq
        replace HB:=aM (below_drew1 HB.out)
        replace HG:=bD HG
        replace HP:=bD HP
        replace HD:=aM (HD.out.below (bd1 rfl))
        replace HK:=aM (HK.out.below (bd1 rfl))
        refine start_ (n:=9) (S:=fun w'=>w'.cell? ⟨g,0,none⟩=some (.slice A1 x.length cA1)∧w'.cell? ⟨gp,1,none⟩=some (.int .i64 at_)∧w'.cell? ⟨gp,2,none⟩=some (.slice Ab lb.length cb)) (ds:=[]) (Array.replicate 9 false) (by kernel_rfl) rfl rfl ⟨(blk_cell HG.out 0).trans rfl,(blk_cell HP.out 1).trans rfl,(blk_cell HP.out 2).trans rfl⟩ (fun hHeld=>?_)
        generalize hw4:World.drew _=w4 at HB HG HP HD HK hHeld ⊢
        clear hw4
        obtain⟨i0,hi0,hcutz⟩:=info_parts info5
        have hcut:=cut_from (P:=Tryz.prog) 22 5 .i64 Tryz.underlying22 hi0 1 hcutz.2.1 A1 x.length cA1 at_ q0 (by omega)
        refine ppq 0 35 ?_
        refine ppq 1 36 ?_
        refine ppq 3 38 ?_
        refine ppq 6 41 ?_
        refine ptq 2 37 ?_
        refine ptq 4 39 ?_
        refine ppq 5 40 ?_
        refine ptq 7 42 ?_
        refine poq 8 43 (fun K hK=>?_)
        refine gCp (h1:=fun _=>rfl) (0:Int) (.tmp 40) (.tmp 42) 22 5 Tryz.underlying22 (by kernel_rfl) (HD.out.1) (Kd.C_below HR.out HB.out) (k:=at_.toNat) (by omega) ?_ rfl rfl
        intro w5 hrw hz hsz hkeep
        have hne:=Kd.R_ne HD.out.1 HG.out (by decide)
        have hnp:=Kd.R_ne HD.out.1 HP.out (by decide)
        replace HG:=aM ((hkeep g hne).trans HG.out)
        replace HP:=aM ((hkeep gp hnp).trans HP.out)
        have HBK:=aM (show Below w0.heap.size w0 w5 from⟨hz.1.trans HB.out.os,hz.2.1.trans HB.out.tape,hz.2.2.trans HB.out.output,by rw[hsz];exact HB.out.size,fun j hj=>(hkeep j (fun e=>by have:=Kd.R_base HD.out.1 j e.symm;omega)).trans (HB.out.block j hj)⟩)
        replace HK:=aM (show Kept w w5 (fun k=>k=g∨some k=vA.ownBlock) from⟨by rw[hsz];exact HK.out.1,fun j hj hn=>(hkeep j (fun e=>HV.out.elim (fun q=>hn (.inr (e.trans q))) (fun ⟨b,q1,q2⟩=>by have:=e.trans q1;injection this;omega))).trans (HK.out.2 j hj hn)⟩)
        replace HD:=aM (Dsk.wr HD.out (fun k q=>hkeep k q) hrw)
        replace HB:=HBK
        rw[← q2] at HD
        clear hrw hz hsz hkeep hne hnp HBK
        refine hK.out _ _ ⟨(blk_cell HG.out 0).trans rfl,(blk_cell HP.out 1).trans rfl,(blk_cell HP.out 2).trans rfl⟩ (fun hHeld=>?_)
        clear hK K
        refine nR ?_
        refine done_ (by kernel_rfl) ?_
        go_end0
        exact⟨rfl,_,HG.out,HD.out,HB.out,HK.out⟩
theorem impl_Disk_perform.case1 (k:Nat)(g:Nat)(vA vB vP:Value)(lA lB:List Int)(lP:List S91)(gen slt len:Int)(what at_:Int)(Ab:Option Addr)(cb:Nat)(lb:List Int)(rg rs rl:Int)(l1 l2:List Int)(w0 w:World)
    (hB:Below w0.heap.size w0 w) (hg:w0.heap.size≤g) (hG:w.heap[g]?=some (.cells #[vA,vB,.int .i64 gen,.int .i64 slt,.int .i64 len,vP] 39 (0,0))) (hD:Dsk w w0.heap.size vA vB vP lA lB lP)
    (hr:Kd.C (Kd.int .u8) w0 Ab lb.length lb) (hc:lb.length≤cb) (hw:¬what=2) (ho:impl_Disk_slot.f what 1=some ()) (h1:impl_Disk_perform.l0 k lB (wrap64 (at_+lb.length))=some l1) (h2:cut_ l1 at_ lb=some l2):
    Calls Tryz.prog 111 #[.pointer (some ⟨g,0,none⟩),.agg #[.int .i64 what,.int .i64 at_,.slice Ab lb.length cb,.int .i64 rg,.int .i64 rs,.int .i64 rl]] w fun e w'=>e=.returned (.tuple #[])∧∃v,w'.heap[g]?=some (.cells #[vA,v,.int .i64 gen,.int .i64 slt,.int .i64 len,vP] 39 (0,0))∧Dsk w' w0.heap.size vA v vP lA l2 lP∧Below w0.heap.size w0 w'∧Kept w w' (fun k=>k=g∨some k=vB.ownBlock):=by
  have hu91:=Tryz.underlying91
  have HB:=aM hB
  have HG:=aM hG
  have HD:=aM hD
  have HK:=aM (Kept.refl w (fun k=>k=g∨some k=vB.ownBlock))
  have HR:=aM hr
  have HC:=aM hc
  have HW:=aM hg
  have H1:=aM h1
  have H2:=aM h2
  have HO:=aM ho
  have c1:(what==2)=false:=beq_eq_false_iff_ne.mpr hw
  clear hB hG hD hr hc hg h1 h2 ho hw
  go_enter Tryz.func111,Tryz.ntmps111
  go_wp2_with (first|(refine g_D 3 ?_;refine gBx 3 #[.int .i64 what,.int .i64 at_,.slice Ab lb.length cb,.int .i64 rg,.int .i64 rs,.int .i64 rl] 91 ?_;intro gp hgp w2 hbox hb;have HP:=aM hbox;have HN:=aM (show g≠gp from fun e=>by have:=(Array.getElem?_eq_some_iff.1 HG.out).1;omega);have HS:=aM (show w.heap.size≤gp from by have:=HK.out.1;omega);replace HB:=aM (below_step HB.out hb);replace HG:=aM (blk_below HG.out hb);replace HD:=aM (HD.out.below hb);replace HK:=aM (HK.out.below hb);clear hb hbox hgp;obtain⟨hcz0,hcz1,hcz2,hcz3,hcz4,hcz5⟩:=cz6 HP.out)|(refine g_C 102 ?_;refine gL (some 16) Tryz.func102 #[.pointer (some ⟨g,0,none⟩),.int .i64 what] ?_;refine(impl_Disk_slot.calls _ HO.out).mono ?_;rintro e w3 ⟨rfl,hd⟩;refine⟨_,rfl,?_⟩;have hb:=hd.below;replace HB:=aM (below_step HB.out hb);replace HG:=aM (blk_below HG.out hb);replace HP:=aM (blk_below HP.out hb);replace HD:=aM (HD.out.below hb);replace HK:=aM (HK.out.below hb);clear hb hd))
  clear hcz0 hcz1 hcz2 hcz3 hcz4 hcz5
  go_loopg [17] k (fun kq v17 w'=>∃(v:Value) (x:List Int),Aside0 (impl_Disk_perform.l0 kq x (wrap64 (at_+lb.length))=some l1)∧Aside0 (kq≤k)∧Aside0 (w'.heap[g]?=some (.cells #[vA,v,.int .i64 gen,.int .i64 slt,.int .i64 len,vP] 39 (0,0)))∧Aside0 (w'.heap[gp]?=some (.cells #[.int .i64 what,.int .i64 at_,.slice Ab lb.length cb,.int .i64 rg,.int .i64 rs,.int .i64 rl] 91 (0,0)))∧Aside0 (Dsk w' w0.heap.size vA v vP lA x lP)∧Aside0 (v.ownBlock=vB.ownBlock∨∃b,v.ownBlock=some b∧w.heap.size≤b)∧Aside0 (Kept w w' (fun k=>k=g∨some k=vB.ownBlock))∧Aside0 (Below w0.heap.size w0 w'))
  case atStart=>exact⟨vB,lB,H1,⟨Nat.le_refl _⟩,HG,HP,HD,⟨.inl rfl⟩,HK,HB⟩
  case round=>
    clear H1 HG HP HD HK HB
    obtain⟨v,x,HA,HK1,HG,HP,HD,HV,HK,HB⟩:=hrel
    cases gk with
    |zero=>exact absurd HA.out (by simp [impl_Disk_perform.l0])
    | succ k1=>
      have H:=HA.out
      clear HA
      simp only[impl_Disk_perform.l0] at H
      obtain⟨hcz0,hcz1,hcz2,hcz3,hcz4,hcz5⟩:=cz6 HP.out
      obtain⟨hcy0,hcy1,hcy2,hcy3,hcy4,hcy5⟩:=cz6 HG.out
      obtain⟨A1,cA1,hv⟩:=Kd.R_slice HD.out.2.1
      subst hv
      by_cases c3:(x.length:Int)<wrap64 (at_+lb.length)
      · rw[if_pos c3] at H
        have c3b:decide ((x.length:Int)<wrap64 (at_+lb.length))=true:=decide_eq_true c3
        clear c3
        replace H:=ifN H
        obtain⟨c4,H⟩:=H
        have H':=aM H
        have LM:=aM c4
        clear H c4
        go_wp2_with (first|fail)
        go_quiet (fail)
        clear hcz0 hcz1 hcz2 hcz3 hcz4 hcz5 hcy0 hcy1 hcy2 hcy3 hcy4 hcy5
        generalize hw3:World.drewN _ _=w3
        have hb:=bdN hw3
        clear hw3
        replace HB:=aM (below_step HB.out hb)
        replace HG:=aM (blk_below HG.out hb)
        replace HP:=aM (blk_below HP.out hb)
        replace HD:=aM (HD.out.below hb)
        replace HK:=aM (HK.out.below hb)
        clear hb
        obtain⟨hcy0,hcy1,hcy2,hcy3,hcy4,hcy5⟩:=cz6 HG.out
        go_wp2_with (first|((with_reducible refine gate_builtin (b:=.append) (xs:=#[.tmp 31,.tmp 32]) rfl ?_);at_builtin;refine Kd.R_append (Kd.int .u8) (w0:=w0) w0.heap.size rfl (.tmp 31) (.tmp 32) 22 5 (.int .u8 0) 1 rfl Tryz.underlying22 info5 rfl (by decide) (by omega) (.slice A1 x.length cA1) x 0 [.int .u8 0] (fun k=>some k≠vA.ownBlock) (fun _=>False) rfl rfl rfl (fun _ hk=>hk.elim) (Kd.fresh' (Kd.R_lt HD.out.1)) HD.out.2.1 HB.out HB.out.size (by have:=LM.out;omega) ?_;intro v1 w4 ho hb hg hat;have hz:=HK.out.1;replace HK:=aM (Kept.of_grown hg HK.out (fun k e=>HV.out.elim (fun q=>.inl (.inr (e.symm.trans q))) (fun ⟨b,q1,q2⟩=>.inr (by have:=e.symm.trans q1;injection this;omega))));replace HV:=aM (own_then HV.out HK.out.1 hat hg hz);replace HG:=aM (blk_grown HG.out hg (Kd.R_ne HD.out.2.1 HG.out (by decide)));replace HP:=aM (blk_grown HP.out hg (Kd.R_ne HD.out.2.1 HP.out (by decide)));replace HD:=aM (Dsk.app' HD.out hg hat ho);replace HB:=aM hb;clear ho hb hg hat hz;obtain⟨A2,cA2,hv2⟩:=Kd.R_slice HD.out.2.1;rw[List.length_append] at hv2;replace hv2:v1=.slice A2 (x.length+1) cA2:=hv2;subst hv2)|((with_reducible refine gate_store (t:=22) (p:=34) rfl ?_);go_loud (refine gSt [.slice A2 (x.length+1) cA2] #[vA,.slice A2 (x.length+1) cA2,.int .i64 gen,.int .i64 slt,.int .i64 len,vP] HG.out ?_);intro w5 hw hbox;replace HP:=aM ((hw.2.2 gp (fun e=>HN.out e.symm)).trans HP.out);replace HD:=aM (HD.out.off HG.out hw);replace HG:=aM hbox;replace HK:=aM (HK.out.then_ hw.kept (fun k e=>.inl (.inl e)));replace HB:=aM (hw.below HB.out HW.out);clear hw hbox))
        go_roundg k1
        case measure=>have:=HK1.out;omega
        case rel=>exact⟨_,_,H',⟨by have:=HK1.out;omega⟩,HG,HP,HD,HV,HK,HB⟩
      · rw[if_neg c3] at H
        have c3b:decide ((x.length:Int)<wrap64 (at_+lb.length))=false:=decide_eq_false c3
        clear c3
        obtain rfl:=o_I H
        clear H
        go_wp2_with (first|fail)
        go_quiet (fail)
        clear hcz0 hcz1 hcz2 hcz3 hcz4 hcz5 hcy0 hcy1 hcy2 hcy3 hcy4 hcy5
        generalize hw3:World.drewN _ _=w3
        have hb:=bdN hw3
        clear hw3
        replace HB:=aM (below_step HB.out hb)
        replace HG:=aM (blk_below HG.out hb)
        replace HP:=aM (blk_below HP.out hb)
        replace HD:=aM (HD.out.below hb)
        replace HK:=aM (HK.out.below hb)
        clear hb
        go_wp2_with (first|fail)
        go_wp2_with (first|fail)
        have hq:=cut_some H2.out
        obtain⟨q0,q1,q2⟩:=hq
        replace HB:=aM (below_drew1 HB.out)
        replace HG:=bD HG
        replace HP:=bD HP
        replace HD:=aM (HD.out.below (bd1 rfl))
        replace HK:=aM (HK.out.below (bd1 rfl))
        refine start_ (n:=9) (S:=fun w'=>w'.cell? ⟨g,1,none⟩=some (.slice A1 x.length cA1)∧w'.cell? ⟨gp,1,none⟩=some (.int .i64 at_)∧w'.cell? ⟨gp,2,none⟩=some (.slice Ab lb.length cb)) (ds:=[]) (Array.replicate 9 false) (by kernel_rfl) rfl rfl ⟨(blk_cell HG.out 1).trans rfl,(blk_cell HP.out 1).trans rfl,(blk_cell HP.out 2).trans rfl⟩ (fun hHeld=>?_)
        generalize hw4:World.drew _=w4 at HB HG HP HD HK hHeld ⊢
        clear hw4
        obtain⟨i0,hi0,hcutz⟩:=info_parts info5
        have hcut:=cut_from (P:=Tryz.prog) 22 5 .i64 Tryz.underlying22 hi0 1 hcutz.2.1 A1 x.length cA1 at_ q0 (by omega)
        refine ppq 0 35 ?_
        refine ppq 1 36 ?_
        refine ppq 3 38 ?_
        refine ppq 6 41 ?_
        refine ptq 2 37 ?_
        refine ptq 4 39 ?_
        refine ppq 5 40 ?_
        refine ptq 7 42 ?_
        refine poq 8 43 (fun K hK=>?_)
        refine gCp (h1:=fun _=>rfl) (0:Int) (.tmp 40) (.tmp 42) 22 5 Tryz.underlying22 (by kernel_rfl) (HD.out.2.1) (Kd.C_below HR.out HB.out) (k:=at_.toNat) (by omega) ?_ rfl rfl
        intro w5 hrw hz hsz hkeep
        have hne:=Kd.R_ne HD.out.2.1 HG.out (by decide)
        have hnp:=Kd.R_ne HD.out.2.1 HP.out (by decide)
        replace HG:=aM ((hkeep g hne).trans HG.out)
        replace HP:=aM ((hkeep gp hnp).trans HP.out)
        have HBK:=aM (show Below w0.heap.size w0 w5 from⟨hz.1.trans HB.out.os,hz.2.1.trans HB.out.tape,hz.2.2.trans HB.out.output,by rw[hsz];exact HB.out.size,fun j hj=>(hkeep j (fun e=>by have:=Kd.R_base HD.out.2.1 j e.symm;omega)).trans (HB.out.block j hj)⟩)
        replace HK:=aM (show Kept w w5 (fun k=>k=g∨some k=vB.ownBlock) from⟨by rw[hsz];exact HK.out.1,fun j hj hn=>(hkeep j (fun e=>HV.out.elim (fun q=>hn (.inr (e.trans q))) (fun ⟨b,q1,q2⟩=>by have:=e.trans q1;injection this;omega))).trans (HK.out.2 j hj hn)⟩)
        replace HD:=aM (Dsk.wr' HD.out (fun k q=>hkeep k q) hrw)
        replace HB:=HBK
        rw[← q2] at HD
        clear hrw hz hsz hkeep hne hnp HBK
        refine hK.out _ _ ⟨(blk_cell HG.out 1).trans rfl,(blk_cell HP.out 1).trans rfl,(blk_cell HP.out 2).trans rfl⟩ (fun hHeld=>?_)
        clear hK K
        refine nR ?_
        refine done_ (by kernel_rfl) ?_
        go_end0
        exact⟨rfl,_,HG.out,HD.out,HB.out,HK.out⟩
theorem impl_Disk_perform.case2 (g:Nat)(vA vB vP:Value)(lA lB:List Int)(lP:List S91)(gen slt len:Int)(what at_:Int)(Ab:Option Addr)(cb:Nat)(lb:List Int)(rg rs rl:Int)(w0 w:World)
    (hB:Below w0.heap.size w0 w) (hg:w0.heap.size≤g) (hG:w.heap[g]?=some (.cells #[vA,vB,.int .i64 gen,.int .i64 slt,.int .i64 len,vP] 39 (0,0))) (hD:Dsk w w0.heap.size vA vB vP lA lB lP) (hw:what=2):
    Calls Tryz.prog 111 #[.pointer (some ⟨g,0,none⟩),.agg #[.int .i64 what,.int .i64 at_,.slice Ab lb.length cb,.int .i64 rg,.int .i64 rs,.int .i64 rl]] w fun e w'=>e=.returned (.tuple #[])∧w'.heap[g]?=some (.cells #[vA,vB,.int .i64 rg,.int .i64 rs,.int .i64 rl,vP] 39 (0,0))∧Dsk w' w0.heap.size vA vB vP lA lB lP∧Below w0.heap.size w0 w'∧Kept w w' (fun k=>k=g):=by
  have hu91:=Tryz.underlying91
  have hu36:=Tryz.underlying36
  have HB:=aM hB
  have HG:=aM hG
  have HD:=aM hD
  have HK:=aM (Kept.refl w (fun k=>k=g))
  have HW:=aM hg
  have c1:(what==2)=true:=beq_iff_eq.mpr hw
  clear hB hG hD hg hw
  go_enter Tryz.func111,Tryz.ntmps111
  go_wp2_with (first|(refine g_D 3 ?_;refine gBx 3 #[.int .i64 what,.int .i64 at_,.slice Ab lb.length cb,.int .i64 rg,.int .i64 rs,.int .i64 rl] 91 ?_;intro gp hgp w2 hbox hb;have HP:=aM hbox;replace HB:=aM (below_step HB.out hb);replace HG:=aM (blk_below HG.out hb);replace HD:=aM (HD.out.below hb);replace HK:=aM (HK.out.below hb);clear hb hbox hgp;obtain⟨hcz0,hcz1,hcz2,hcz3,hcz4,hcz5⟩:=cz6 HP.out)|((with_reducible refine gate_store (t:=36) (p:=12) rfl ?_);refine gSt [.int .i64 rg,.int .i64 rs,.int .i64 rl] #[vA,vB,.int .i64 rg,.int .i64 rs,.int .i64 rl,vP] HG.out ?_;intro w5 hw hbox;replace HD:=aM (HD.out.off HG.out hw);replace HG:=aM hbox;replace HK:=aM (HK.out.then_ hw.kept (fun k e=>.inl e));replace HB:=aM (hw.below HB.out HW.out);clear hw hbox hcz0 hcz1 hcz2 hcz3 hcz4 hcz5))
  refine bodyPost_ret (results_none rfl _ _ _) rfl ?_
  exact⟨rfl,HG.out,HD.out,HB.out,HK.out⟩
def impl_Disk_perform.f (k:Nat)(lA lB:List Int)(gen slt len:Int)(what at_:Int)(lb:List Int)(rg rs rl:Int):Option (List Int×List Int×Int×Int×Int):=
  if what=2 then some (lA,lB,rg,rs,rl) else if what=0 then (impl_Disk_perform.l0 k lA (wrap64 (at_+lb.length))).bind fun x=>(cut_ x at_ lb).bind fun y=>some (y,lB,gen,slt,len)
    else (impl_Disk_perform.l0 k lB (wrap64 (at_+lb.length))).bind fun x=>(cut_ x at_ lb).bind fun y=>some (lA,y,gen,slt,len)
theorem impl_Disk_perform.mono_l :∀k s n,LeO (impl_Disk_perform.l0 k s n) (impl_Disk_perform.l0 (k+1) s n)
  |0=>fun _ _ r h=>by simp [impl_Disk_perform.l0] at h
  | k+1=>by
    have ih0:=impl_Disk_perform.mono_l k
    intro y0 y1
    unfold impl_Disk_perform.l0
    exact LM
theorem impl_Disk_perform.mono :∀a0 a1 a2 a3 a4 a5 a6 a7 a8 a9 a10 k,LeO (impl_Disk_perform.f k a0 a1 a2 a3 a4 a5 a6 a7 a8 a9 a10) (impl_Disk_perform.f (k+1) a0 a1 a2 a3 a4 a5 a6 a7 a8 a9 a10):=by
  intro a0 a1 a2 a3 a4 a5 a6 a7 a8 a9 a10 k;have ih0:=impl_Disk_perform.mono_l k;unfold impl_Disk_perform.f;exact LM
theorem impl_Disk_perform.calls {k:Nat}{g:Nat}(vA vB vP:Value){lA lB:List Int}(lP:List S91){gen slt len:Int}{what at_:Int}{Ab:Option Addr}{cb:Nat}{lb:List Int}{rg rs rl:Int}{r1 r2:List Int}{r3 r4 r5:Int}(w0 w:World)
  (hB:Below w0.heap.size w0 w) (hg:w0.heap.size≤g) (hG:w.heap[g]?=some (.cells #[vA,vB,.int .i64 gen,.int .i64 slt,.int .i64 len,vP] 39 (0,0))) (hD:Dsk w w0.heap.size vA vB vP lA lB lP)
  (hr:Kd.C (Kd.int .u8) w0 Ab lb.length lb) (hc:lb.length≤cb) (h:impl_Disk_perform.f k lA lB gen slt len what at_ lb rg rs rl=some (r1,r2,r3,r4,r5)):
  Calls Tryz.prog 111 #[.pointer (some ⟨g,0,none⟩),.agg #[.int .i64 what,.int .i64 at_,.slice Ab lb.length cb,.int .i64 rg,.int .i64 rs,.int .i64 rl]] w fun e w'=>e=.returned (.tuple #[])∧∃v1 v2,w'.heap[g]?=some (.cells #[v1,v2,.int .i64 r3,.int .i64 r4,.int .i64 r5,vP] 39 (0,0))∧Dsk w' w0.heap.size v1 v2 vP r1 r2 lP∧Below w0.heap.size w0 w'∧Kept w w' (fun k=>k=g∨some k=vA.ownBlock∨some k=vB.ownBlock):=by
 unfold impl_Disk_perform.f at h
 by_cases c1:what=2
 ·rw[if_pos c1] at h;obtain⟨rfl,rfl,rfl,rfl,rfl⟩:lA=r1∧lB=r2∧rg=r3∧rs=r4∧rl=r5:=by simpa using h
  refine(impl_Disk_perform.case2 g vA vB vP lA lB lP gen slt len what at_ Ab cb lb rg rs rl w0 w hB hg hG hD c1).mono ?_;rintro e w' ⟨rfl,h1,h2,hq1,hq2⟩;exact⟨rfl,_,_,h1,h2,hq1,hq2.mono (fun k q=>.inl q)⟩
 ·rw[if_neg c1] at h
  by_cases cq1:what=0
  ·rw[if_pos cq1] at h;obtain⟨x,h1,h⟩:=bE h;obtain⟨y,h2,h⟩:=bE h;obtain⟨rfl,rfl,rfl,rfl,rfl⟩:y=r1∧lB=r2∧gen=r3∧slt=r4∧len=r5:=by simpa using h
   refine(impl_Disk_perform.case0 k g vA vB vP lA lB lP gen slt len what at_ Ab cb lb rg rs rl x y w0 w hB hg hG hD hr hc c1 (by unfold impl_Disk_slot.f;simp [cq1]) h1.out h2.out).mono ?_;rintro e w' ⟨rfl,v,q1,q2,qq1,qq2⟩;exact⟨rfl,_,_,q1,q2,qq1,qq2.mono (fun k q=>q.imp_right .inl)⟩
  ·rw[if_neg cq1] at h;obtain⟨x,h1,h⟩:=bE h;obtain⟨y,h2,h⟩:=bE h;obtain⟨rfl,rfl,rfl,rfl,rfl⟩:lA=r1∧y=r2∧gen=r3∧slt=r4∧len=r5:=by simpa using h
   refine(impl_Disk_perform.case1 k g vA vB vP lA lB lP gen slt len what at_ Ab cb lb rg rs rl x y w0 w hB hg hG hD hr hc c1 (by unfold impl_Disk_slot.f;simp [cq1]) h1.out h2.out).mono ?_;rintro e w' ⟨rfl,v,q1,q2,qq1,qq2⟩;exact⟨rfl,_,_,q1,q2,qq1,qq2.mono (fun k q=>q.imp_right .inr)⟩
/-- A call of a function value. -/
theorem gLv {P:Program}{ops:Array Oper}{Q:Exit→Act→World→Prop}{rest:List Oper}{o:Oper}{a:Act}{w:World}(N:Option Tmp){f:FuncId}{fn:Func}{xs:Array Operand}{ts:Array TypeId}(t:Tmp)(cap:Array Value)(hf:P.funcs[f]?=some fn)(hname:(fn.name== "runtime.NumGoroutine")=false)(hb:fn.body.isSome=true)(args:Array Value)
    (h:Calls P f (args++cap) w fun e w'=>∃v,e=.returned v∧wpList P ops Q rest (a.put N v) w')
    (hd:o.dst=N:=by rfl) (hx:a.eval (.tmp t)=.func (.func f) #[] cap:=by rfl) (hg:o.guard=none:=by rfl) (hop:o.op=.call {callee:=.value (.tmp t),args:=xs,argTypes:=ts}:=by rfl)
    (hargs:xs.map a.eval=args:=by (try simp only[List.map_toArray,List.map_cons,List.map_nil]);first|done|rfl):wpList P ops Q (o :: rest) a w:=by
  refine wpList_plain hg fun K hK=>?_
  have he:=enters_ hf hname hb (args++cap) w
  have hrun:(execOp a.eval o).run P w=.ok (.enter f (args++cap)) w:=by
    unfold execOp;simp [hop,resolve,Deferred.ofValue,invoke,hx,hargs,he]
  unfold Oper.wp;rw[hrun,Oper.upon_enter];refine h.mono fun e w'' hh=>?_
  obtain⟨v,rfl,hk⟩:=hh;subst hd;exact hK _ _ hk
def impl_Disk_settled.l0 :Nat→(Nat→Int→Option Bool)→List S91→Int→List Int→List Int→Int→Int→Int→Option (List Int×List Int×Int×Int×Int)
  |0,_,_,_,_,_,_,_,_=>none
  |k+1,keep,x,i,a,b,c,d,e=>if i<(x.length:Int) then (if 0≤i then ((keep k i).bind fun t=>(if t=true then ((impl_Disk_perform.f k a b c d e (rd_T91 x i).f0 (rd_T91 x i).f1 (rd_T91 x i).f2 (rd_T91 x i).f3.f0 (rd_T91 x i).f3.f1 (rd_T91 x i).f3.f2).bind fun p=>(impl_Disk_settled.l0 k keep x (wrap64 (i+1)) p.1 p.2.1 p.2.2.1 p.2.2.2.1 p.2.2.2.2)) else (impl_Disk_settled.l0 k keep x (wrap64 (i+1)) a b c d e))) else none) else some (a,b,c,d,e)
def impl_Disk_settled.f (k:Nat)(keep:Nat→Int→Option Bool)(l0_0:List Int)(l0_1:List Int)(a0_2:Int)(a0_3:Int)(a0_4:Int)(l0_5:List S91):Option (List Int×List Int×Int×Int×Int×List S91):=(impl_copyDisk.f k l0_0 l0_1 a0_2 a0_3 a0_4 l0_5).bind fun c=>((impl_DiskOk.f k l0_0 l0_1 a0_2 a0_3 a0_4 l0_5).bind fun t=>(if t=true then ((impl_Disk_settled.l0 k keep l0_5 0 c.1 c.2.1 c.2.2.1 c.2.2.2.1 c.2.2.2.2.1).bind fun p=>some (p.1,p.2.1,p.2.2.1,p.2.2.2.1,p.2.2.2.2,[])) else (some (c.1,c.2.1,c.2.2.1,c.2.2.2.1,c.2.2.2.2.1,c.2.2.2.2.2))))
theorem impl_Disk_settled.mono_l (keep:Nat→Int→Option Bool)(hk:∀k i,LeO (keep k i) (keep (k+1) i)):∀k,(∀y0 y1 y2 y3 y4 y5 y6,LeO (impl_Disk_settled.l0 k keep y0 y1 y2 y3 y4 y5 y6) (impl_Disk_settled.l0 (k+1) keep y0 y1 y2 y3 y4 y5 y6))
  |0=>fun _ _ _ _ _ _ _ r h=>by simp [impl_Disk_settled.l0] at h
  | k+1=>by
    have m0_:=@impl_Disk_perform.mono
    have ih0:=impl_Disk_settled.mono_l keep hk k
    intro y0 y1 y2 y3 y4 y5 y6
    unfold impl_Disk_settled.l0
    exact LM
theorem impl_Disk_settled.mono (keep:Nat→Int→Option Bool)(hk:∀k i,LeO (keep k i) (keep (k+1) i)):∀a0 a1 a2 a3 a4 a5 k,LeO (impl_Disk_settled.f k keep a0 a1 a2 a3 a4 a5) (impl_Disk_settled.f (k+1) keep a0 a1 a2 a3 a4 a5):=by
  intro a0 a1 a2 a3 a4 a5 k;have m0_:=@impl_copyDisk.mono;have m1_:=@impl_DiskOk.mono;have ih0:=impl_Disk_settled.mono_l keep hk k;unfold impl_Disk_settled.f;exact LM
theorem impl_Disk_settled.calls {k:Nat}(keep:Nat→Int→Option Bool)(F:FuncId)(fn:Func)(cap:Array Value)(A0_0:Option Addr)(c0_0:Nat)(l0_0:List Int)(A0_1:Option Addr)(c0_1:Nat)(l0_1:List Int)(a0_2:Int)(a0_3:Int)(a0_4:Int)(A0_5:Option Addr)(c0_5:Nat)(l0_5:List (S91))(r1:List Int)(r2:List Int)(r3:Int)(r4:Int)(r5:Int)(r6:List (S91))(w:World)(hr0_0:Kd.C (Kd.int .u8) w A0_0 l0_0.length l0_0)(hc0_0:l0_0.length≤c0_0)(hr0_1:Kd.C (Kd.int .u8) w A0_1 l0_1.length l0_1)(hc0_1:l0_1.length≤c0_1)(hr0_5:Kd.C k91 w A0_5 l0_5.length l0_5)(hc0_5:l0_5.length≤c0_5)(hf:Tryz.prog.funcs[F]?=some fn)(hname:(fn.name== "runtime.NumGoroutine")=false)(hb:fn.body.isSome=true)
    (hkeep:∀k i t w',Below w.heap.size w w'→keep k i=some t→Calls Tryz.prog F (#[.int .i64 i]++cap) w' fun e w''=>e=.returned (.bool t)∧Below w'.heap.size w' w'')
    (h:impl_Disk_settled.f k keep l0_0 l0_1 a0_2 a0_3 a0_4 l0_5=some (r1,r2,r3,r4,r5,r6)):
    Calls Tryz.prog 71 #[.agg #[.slice A0_0 l0_0.length c0_0,.slice A0_1 l0_1.length c0_1,.int .i64 a0_2,.int .i64 a0_3,.int .i64 a0_4,.slice A0_5 l0_5.length c0_5],.func (.func F) #[] cap] w fun e w'=>∃v0_ v1_ v5_:Value,e=.returned (.agg #[v0_,v1_,.int .i64 r3,.int .i64 r4,.int .i64 r5,v5_])∧Kd.R (Kd.int .u8) 5 w' w.heap.size (fun k_=>some k_≠(v1_:Value).ownBlock) v0_ r1∧Kd.R (Kd.int .u8) 5 w' w.heap.size (fun k_=>some k_≠(v0_:Value).ownBlock) v1_ r2∧Kd.S k91 91 w' w.heap.size (fun k_=>some k_≠(v0_:Value).ownBlock∧some k_≠(v1_:Value).ownBlock) v5_ r6∧Below w.heap.size w w':=by
  have hu39:=Tryz.underlying39
  have hu91:=Tryz.underlying91
  have HR0:=aM (And.intro hr0_0 hc0_0)
  have HR1:=aM (And.intro hr0_1 hc0_1)
  have HR5:=aM (And.intro hr0_5 hc0_5)
  have HB:=aM (Below.refl w.heap.size w)
  have HN:=aM hname
  have HF:=aM hf
  have HY:=aM hb
  have HC:=aM hkeep
  clear hr0_0 hc0_0 hr0_1 hc0_1 hr0_5 hc0_5 hname hf hb hkeep
  unfold impl_Disk_settled.f at h
  replace h:=bE h;obtain⟨⟨q1,q2,q3,q4,q5,q6⟩,A1,h⟩:=h
  replace h:=bE h;obtain⟨t,A2,h⟩:=h
  dsimp only at A1 A2 h
  cases t with
  | false=>
    rw[if_neg (by decide)] at h
    obtain⟨rfl,rfl,rfl,rfl,rfl,rfl⟩:q1=r1∧q2=r2∧q3=r3∧q4=r4∧q5=r5∧q6=r6:=by simpa using h
    clear h
    go_enter Tryz.func71,Tryz.ntmps71
    go_wp2_with (first|(refine g_D 2 ?_;refine gBx 2 #[.slice A0_0 l0_0.length c0_0,.slice A0_1 l0_1.length c0_1,.int .i64 a0_2,.int .i64 a0_3,.int .i64 a0_4,.slice A0_5 l0_5.length c0_5] 39 ?_;intro g2 hg w2 hbox hb;have B2:=aM hbox;replace HB:=aM (below_step HB.out hb);clear hb hbox hg;(simp only[Act.put,List.setIfInBounds_toArray,List.set_cons_zero,List.set_cons_succ]))|(refine g_D 4 ?_;refine gBx 4 #[.slice none 0 0,.slice none 0 0,.int .i64 0,.int .i64 0,.int .i64 0,.slice none 0 0] 39 ?_;intro g4 hg w2 hbox hb;have B4:=aM hbox;have HG4:=aM (show w.heap.size≤g4 by rw[hg];exact HB.out.size);replace B2:=aM (blk_below B2.out hb);replace HB:=aM (below_step HB.out hb);clear hb hbox hg;(simp only[Act.put,List.setIfInBounds_toArray,List.set_cons_zero,List.set_cons_succ]))|(refine g_D 8 ?_;refine gLd 8 B2.out ?_;(simp only[Act.put,List.setIfInBounds_toArray,List.set_cons_zero,List.set_cons_succ]))|(refine g_C 40 ?_;refine gL (some 9) Tryz.func40 #[.agg #[.slice A0_0 l0_0.length c0_0,.slice A0_1 l0_1.length c0_1,.int .i64 a0_2,.int .i64 a0_3,.int .i64 a0_4,.slice A0_5 l0_5.length c0_5]] ?_;refine(impl_copyDisk.calls (Kd.C_below HR0.out.1 HB.out) HR0.out.2 (Kd.C_below HR1.out.1 HB.out) HR1.out.2 (Kd.C_below HR5.out.1 HB.out) HR5.out.2 A1.out).mono ?_;rintro e w5 ⟨vA,vB,vP,rfl,ho1,ho2,ho3,hb⟩;refine⟨_,rfl,?_⟩;have HD:=aM (show Dsk w5 w.heap.size vA vB vP q1 q2 q6 from⟨Kd.R_lower ho1 HB.out.size,Kd.R_lower ho2 HB.out.size,Kd.S_lower ho3 HB.out.size⟩);replace B2:=aM (blk_below B2.out hb);replace B4:=aM (blk_below B4.out hb);replace HB:=aM (below_step HB.out hb);clear ho1 ho2 ho3 hb;obtain⟨A1',c1',h1'⟩:=Kd.R_slice HD.out.1;subst h1';obtain⟨A2',c2',h2'⟩:=Kd.R_slice HD.out.2.1;subst h2';obtain⟨A3',c3',h3'⟩:=Kd.S_slice HD.out.2.2;subst h3';(simp only[Act.put,List.setIfInBounds_toArray,List.set_cons_zero,List.set_cons_succ]))|(refine g_D 5 ?_;refine gBx 5 #[.slice none 0 0,.slice none 0 0,.int .i64 0,.int .i64 0,.int .i64 0,.slice none 0 0] 39 ?_;intro g5 hg w2 hbox hb;have B5:=aM hbox;have HG5:=aM (show w.heap.size≤g5 by rw[hg];exact HB.out.size);have N2:=aM (show g2≠g5 from fun e=>by have:=(Array.getElem?_eq_some_iff.1 B2.out).1;omega);have N4:=aM (show g4≠g5 from fun e=>by have:=(Array.getElem?_eq_some_iff.1 B4.out).1;omega);replace HD:=aM (HD.out.below hb);replace B2:=aM (blk_below B2.out hb);replace B4:=aM (blk_below B4.out hb);replace HB:=aM (below_step HB.out hb);clear hb hbox hg;(simp only[Act.put,List.setIfInBounds_toArray,List.set_cons_zero,List.set_cons_succ]))|((with_reducible refine gate_store (t:=39) (p:=5) rfl ?_);refine gSt [.slice A1' q1.length c1',.slice A2' q2.length c2',.int .i64 q3,.int .i64 q4,.int .i64 q5,.slice A3' q6.length c3'] #[.slice A1' q1.length c1',.slice A2' q2.length c2',.int .i64 q3,.int .i64 q4,.int .i64 q5,.slice A3' q6.length c3'] B5.out ?_;intro w7 hw hbox;replace HD:=aM (HD.out.off B5.out hw);replace B5:=aM hbox;replace B2:=aM ((hw.2.2 g2 N2.out).trans B2.out);replace B4:=aM ((hw.2.2 g4 N4.out).trans B4.out);replace HB:=aM (hw.below HB.out HG5.out);clear hw hbox)|(refine g_D 10 ?_;refine gLd 10 B2.out ?_;(simp only[Act.put,List.setIfInBounds_toArray,List.set_cons_zero,List.set_cons_succ]))|(refine g_C 66 ?_;refine gL (some 11) Tryz.func66 #[.agg #[.slice A0_0 l0_0.length c0_0,.slice A0_1 l0_1.length c0_1,.int .i64 a0_2,.int .i64 a0_3,.int .i64 a0_4,.slice A0_5 l0_5.length c0_5]] ?_;refine(impl_DiskOk.calls (Kd.C_below HR0.out.1 HB.out) HR0.out.2 (Kd.C_below HR1.out.1 HB.out) HR1.out.2 (Kd.C_below HR5.out.1 HB.out) HR5.out.2 A2.out).mono ?_;rintro e w8 ⟨rfl,hb⟩;refine⟨_,rfl,?_⟩;have hb:=hb;replace HD:=aM (HD.out.below hb);replace B2:=aM (blk_below B2.out hb);replace B4:=aM (blk_below B4.out hb);replace B5:=aM (blk_below B5.out hb);replace HB:=aM (below_step HB.out hb);clear hb;(simp only[Act.put,List.setIfInBounds_toArray,List.set_cons_zero,List.set_cons_succ]))|(refine g_D 13 ?_;refine gLd 13 B5.out ?_;(simp only[Act.put,List.setIfInBounds_toArray,List.set_cons_zero,List.set_cons_succ]))|((with_reducible refine gate_store (t:=39) (p:=4) rfl ?_);refine gSt [.slice A1' q1.length c1',.slice A2' q2.length c2',.int .i64 q3,.int .i64 q4,.int .i64 q5,.slice A3' q6.length c3'] #[.slice A1' q1.length c1',.slice A2' q2.length c2',.int .i64 q3,.int .i64 q4,.int .i64 q5,.slice A3' q6.length c3'] B4.out ?_;intro w10 hw hbox;replace HD:=aM (HD.out.off B4.out hw);replace B4:=aM hbox;replace HB:=aM (hw.below HB.out HG4.out);clear hw hbox))
    refine bodyPost_ret (results_cell_row rfl _ _ g4 39 _ (0,0) _ rfl B4.out hu39 rfl (by kernel_rfl)) rfl ?_
    exact⟨_,_,_,rfl,HD.out.1,HD.out.2.1,HD.out.2.2,HB.out⟩
  | true=>
    rw[if_pos rfl] at h
    replace h:=bE h;obtain⟨⟨s1,s2,s3,s4,s5⟩,A3,h⟩:=h
    obtain⟨rfl,rfl,rfl,rfl,rfl,rfl⟩:s1=r1∧s2=r2∧s3=r3∧s4=r4∧s5=r5∧[]=r6:=by simpa using h
    clear h
    have H1:=aM A3.out
    clear A3
    go_enter Tryz.func71,Tryz.ntmps71
    go_wp2_with (first|(refine g_D 2 ?_;refine gBx 2 #[.slice A0_0 l0_0.length c0_0,.slice A0_1 l0_1.length c0_1,.int .i64 a0_2,.int .i64 a0_3,.int .i64 a0_4,.slice A0_5 l0_5.length c0_5] 39 ?_;intro g2 hg w2 hbox hb;have B2:=aM hbox;replace HB:=aM (below_step HB.out hb);clear hb hbox hg;(simp only[Act.put,List.setIfInBounds_toArray,List.set_cons_zero,List.set_cons_succ]))|(refine g_D 4 ?_;refine gBx 4 #[.slice none 0 0,.slice none 0 0,.int .i64 0,.int .i64 0,.int .i64 0,.slice none 0 0] 39 ?_;intro g4 hg w2 hbox hb;have B4:=aM hbox;have HG4:=aM (show w.heap.size≤g4 by rw[hg];exact HB.out.size);replace B2:=aM (blk_below B2.out hb);replace HB:=aM (below_step HB.out hb);clear hb hbox hg;(simp only[Act.put,List.setIfInBounds_toArray,List.set_cons_zero,List.set_cons_succ]))|(refine g_D 8 ?_;refine gLd 8 B2.out ?_;(simp only[Act.put,List.setIfInBounds_toArray,List.set_cons_zero,List.set_cons_succ]))|(refine g_C 40 ?_;refine gL (some 9) Tryz.func40 #[.agg #[.slice A0_0 l0_0.length c0_0,.slice A0_1 l0_1.length c0_1,.int .i64 a0_2,.int .i64 a0_3,.int .i64 a0_4,.slice A0_5 l0_5.length c0_5]] ?_;refine(impl_copyDisk.calls (Kd.C_below HR0.out.1 HB.out) HR0.out.2 (Kd.C_below HR1.out.1 HB.out) HR1.out.2 (Kd.C_below HR5.out.1 HB.out) HR5.out.2 A1.out).mono ?_;rintro e w5 ⟨vA,vB,vP,rfl,ho1,ho2,ho3,hb⟩;refine⟨_,rfl,?_⟩;have HD:=aM (show Dsk w5 w.heap.size vA vB vP q1 q2 q6 from⟨Kd.R_lower ho1 HB.out.size,Kd.R_lower ho2 HB.out.size,Kd.S_lower ho3 HB.out.size⟩);replace B2:=aM (blk_below B2.out hb);replace B4:=aM (blk_below B4.out hb);replace HB:=aM (below_step HB.out hb);clear ho1 ho2 ho3 hb;obtain⟨A1',c1',h1'⟩:=Kd.R_slice HD.out.1;subst h1';obtain⟨A2',c2',h2'⟩:=Kd.R_slice HD.out.2.1;subst h2';obtain⟨A3',c3',h3'⟩:=Kd.S_slice HD.out.2.2;subst h3';(simp only[Act.put,List.setIfInBounds_toArray,List.set_cons_zero,List.set_cons_succ]))|(refine g_D 5 ?_;refine gBx 5 #[.slice none 0 0,.slice none 0 0,.int .i64 0,.int .i64 0,.int .i64 0,.slice none 0 0] 39 ?_;intro g5 hg w2 hbox hb;have B5:=aM hbox;have HG5:=aM (show w.heap.size≤g5 by rw[hg];exact HB.out.size);have N2:=aM (show g2≠g5 from fun e=>by have:=(Array.getElem?_eq_some_iff.1 B2.out).1;omega);have N4:=aM (show g4≠g5 from fun e=>by have:=(Array.getElem?_eq_some_iff.1 B4.out).1;omega);replace HD:=aM (HD.out.below hb);replace B2:=aM (blk_below B2.out hb);replace B4:=aM (blk_below B4.out hb);replace HB:=aM (below_step HB.out hb);clear hb hbox hg;(simp only[Act.put,List.setIfInBounds_toArray,List.set_cons_zero,List.set_cons_succ]))|((with_reducible refine gate_store (t:=39) (p:=5) rfl ?_);refine gSt [.slice A1' q1.length c1',.slice A2' q2.length c2',.int .i64 q3,.int .i64 q4,.int .i64 q5,.slice A3' q6.length c3'] #[.slice A1' q1.length c1',.slice A2' q2.length c2',.int .i64 q3,.int .i64 q4,.int .i64 q5,.slice A3' q6.length c3'] B5.out ?_;intro w7 hw hbox;replace HD:=aM (HD.out.off B5.out hw);replace B5:=aM hbox;replace B2:=aM ((hw.2.2 g2 N2.out).trans B2.out);replace B4:=aM ((hw.2.2 g4 N4.out).trans B4.out);replace HB:=aM (hw.below HB.out HG5.out);clear hw hbox)|(refine g_D 10 ?_;refine gLd 10 B2.out ?_;(simp only[Act.put,List.setIfInBounds_toArray,List.set_cons_zero,List.set_cons_succ]))|(refine g_C 66 ?_;refine gL (some 11) Tryz.func66 #[.agg #[.slice A0_0 l0_0.length c0_0,.slice A0_1 l0_1.length c0_1,.int .i64 a0_2,.int .i64 a0_3,.int .i64 a0_4,.slice A0_5 l0_5.length c0_5]] ?_;refine(impl_DiskOk.calls (Kd.C_below HR0.out.1 HB.out) HR0.out.2 (Kd.C_below HR1.out.1 HB.out) HR1.out.2 (Kd.C_below HR5.out.1 HB.out) HR5.out.2 A2.out).mono ?_;rintro e w8 ⟨rfl,hb⟩;refine⟨_,rfl,?_⟩;have hb:=hb;replace HD:=aM (HD.out.below hb);replace B2:=aM (blk_below B2.out hb);replace B4:=aM (blk_below B4.out hb);replace B5:=aM (blk_below B5.out hb);replace HB:=aM (below_step HB.out hb);clear hb;(simp only[Act.put,List.setIfInBounds_toArray,List.set_cons_zero,List.set_cons_succ]);obtain⟨hcz0,hcz1,hcz2,hcz3,hcz4,hcz5⟩:=cz6 B2.out))
    clear hcz0 hcz1 hcz2 hcz3 hcz4 hcz5 B2
    go_loopg [17] k (fun kq v17 w'=>∃(i:Int) (v1 v2:Value) (a b:List Int) (c d e:Int),v17=.int .i64 i∧Aside0 (impl_Disk_settled.l0 kq keep l0_5 i a b c d e=some (s1,s2,s3,s4,s5))∧Aside0 (kq≤k)∧Aside0 (w'.heap[g5]?=some (.cells #[v1,v2,.int .i64 c,.int .i64 d,.int .i64 e,.slice A3' q6.length c3'] 39 (0,0)))∧Aside0 (w'.heap[g4]?=some (.cells #[.slice none 0 0,.slice none 0 0,.int .i64 0,.int .i64 0,.int .i64 0,.slice none 0 0] 39 (0,0)))∧Aside0 (Dsk w' w.heap.size v1 v2 (.slice A3' q6.length c3') a b q6)∧Aside0 (Below w.heap.size w w'))
    case atStart=>exact⟨0,_,_,q1,q2,q3,q4,q5,rfl,H1,⟨Nat.le_refl _⟩,B5,B4,HD,HB⟩
    case round=>
      clear H1 B5 B4 HD HB
      obtain⟨i,v1,v2,a,b,c,d,e,rfl,HA,HK1,B5,B4,HD,HB⟩:=hrel
      cases gk with
      |zero=>exact absurd HA.out (by simp [impl_Disk_settled.l0])
      | succ k1=>
        have H:=HA.out
        clear HA
        simp only[impl_Disk_settled.l0] at H
        by_cases c3:i<(l0_5.length:Int)
        · rw[if_pos c3] at H
          have c3b:decide (i<(l0_5.length:Int))=true:=decide_eq_true c3
          replace H:=ifN H
          obtain⟨c4,H⟩:=H
          replace H:=bE H
          obtain⟨t,A5,H⟩:=H
          obtain⟨ad,A2,c2,e0,hx0,hx1,hx2,hx3,hx4,hx5,hl2,hi2⟩:=at_T91 HR5.out.1 i c4 c3
          cases e0
          replace hx0:=(HB.out.cell (World.block_lt_of_cell? w _ hx0)).trans hx0
          replace hx1:=(HB.out.cell (World.block_lt_of_cell? w _ hx1)).trans hx1
          replace hx2:=(HB.out.cell (World.block_lt_of_cell? w _ hx2)).trans hx2
          replace hx3:=(HB.out.cell (World.block_lt_of_cell? w _ hx3)).trans hx3
          replace hx4:=(HB.out.cell (World.block_lt_of_cell? w _ hx4)).trans hx4
          replace hx5:=(HB.out.cell (World.block_lt_of_cell? w _ hx5)).trans hx5
          have HE2:=aM (And.intro hi2 hl2)
          clear hi2 hl2
          have p0:(0≤i)=True:=eq_true c4
          have q0:(i<(l0_5.length:Int))=True:=eq_true c3
          have c4b:decide (0≤i)=true:=decide_eq_true c4
          clear c3 c4
          cases t with
          | true=>
            rw[if_pos rfl] at H
            replace H:=bE H
            obtain⟨⟨p1,p2,p3,p4,p5⟩,A6,H⟩:=H
            dsimp only at A6 H
            have H':=aM H
            clear H
            go_wp2_with (first|(refine g_D 7 ?_;refine gBx 7 #[.int .i64 0,.int .i64 0,.slice none 0 0,.int .i64 0,.int .i64 0,.int .i64 0] 91 ?_;intro g7 hg w2 hbox hb;have B7:=aM hbox;have HN7:=aM (show _≤g7 from(Nat.le_of_eq hg.symm));have HW7:=aM hb;clear hb hbox hg;(simp only[Act.put,List.setIfInBounds_toArray,List.set_cons_zero,List.set_cons_succ]))|((with_reducible refine gate_store (t:=91) (p:=7) rfl ?_);refine gSt [.int .i64 (rd_T91 l0_5 i).f0,.int .i64 (rd_T91 l0_5 i).f1,.slice A2 (rd_T91 l0_5 i).f2.length c2,.int .i64 (rd_T91 l0_5 i).f3.f0,.int .i64 (rd_T91 l0_5 i).f3.f1,.int .i64 (rd_T91 l0_5 i).f3.f2] #[.int .i64 (rd_T91 l0_5 i).f0,.int .i64 (rd_T91 l0_5 i).f1,.slice A2 (rd_T91 l0_5 i).f2.length c2,.int .i64 (rd_T91 l0_5 i).f3.f0,.int .i64 (rd_T91 l0_5 i).f3.f1,.int .i64 (rd_T91 l0_5 i).f3.f2] B7.out ?_;intro w7 hw hbox;have hb:=hw.below HW7.out HN7.out;replace B7:=aM hbox;replace HD:=aM (HD.out.below hb);replace B4:=aM (blk_below B4.out hb);replace B5:=aM (blk_below B5.out hb);replace HB:=aM (below_step HB.out hb);clear hw hbox hb HW7 HN7 hx0 hx1 hx2 hx3 hx4 hx5)|(refine g_D 24 ?_;refine gLv (some 24) 22 cap HF.out HN.out HY.out #[.int .i64 i] ?_;refine(HC.out _ i true _ HB.out A5.out).mono ?_;rintro e_ w8 ⟨rfl,hb⟩;refine⟨_,rfl,?_⟩;replace HD:=aM (HD.out.below hb);replace B4:=aM (blk_below B4.out hb);replace B5:=aM (blk_below B5.out hb);replace B7:=aM (blk_below B7.out hb);replace HB:=aM (below_step HB.out hb);clear hb;(simp only[Act.put,List.setIfInBounds_toArray,List.set_cons_zero,List.set_cons_succ]))|(refine g_D 25 ?_;refine gLd 25 B7.out ?_;(simp only[Act.put,List.setIfInBounds_toArray,List.set_cons_zero,List.set_cons_succ]))|(refine g_C 111 ?_;refine gL (some 26) Tryz.func111 #[.pointer (some ⟨g5,0,none⟩),.agg #[.int .i64 (rd_T91 l0_5 i).f0,.int .i64 (rd_T91 l0_5 i).f1,.slice A2 (rd_T91 l0_5 i).f2.length c2,.int .i64 (rd_T91 l0_5 i).f3.f0,.int .i64 (rd_T91 l0_5 i).f3.f1,.int .i64 (rd_T91 l0_5 i).f3.f2]] ?_;refine(impl_Disk_perform.calls _ _ _ q6 w _ HB.out HG5.out B5.out HD.out HE2.out.1 HE2.out.2 A6.out).mono ?_;rintro e_ w9 ⟨rfl,v1',v2',hbox,hd,hb,hk⟩;refine⟨_,rfl,?_⟩;replace B4:=aM (blk_kept B4.out hk (fun q=>q.elim N4.out (fun q=>q.elim (Kd.R_ne HD.out.1 B4.out (by decide)) (Kd.R_ne HD.out.2.1 B4.out (by decide)))));replace B5:=aM hbox;replace HD:=aM hd;replace HB:=aM hb;clear hbox hd hb hk B7;(simp only[Act.put,List.setIfInBounds_toArray,List.set_cons_zero,List.set_cons_succ])))
            go_roundg k1
            case measure=>have:=HK1.out;omega
            case rel=>exact⟨_,_,_,_,_,_,_,_,rfl,H',⟨by have:=HK1.out;omega⟩,B5,B4,HD,HB⟩
          | false=>
            rw[if_neg (by decide)] at H
            have H':=aM H
            clear H
            go_wp2_with (first|(refine g_D 7 ?_;refine gBx 7 #[.int .i64 0,.int .i64 0,.slice none 0 0,.int .i64 0,.int .i64 0,.int .i64 0] 91 ?_;intro g7 hg w2 hbox hb;have B7:=aM hbox;have HN7:=aM (show _≤g7 from(Nat.le_of_eq hg.symm));have HW7:=aM hb;clear hb hbox hg;(simp only[Act.put,List.setIfInBounds_toArray,List.set_cons_zero,List.set_cons_succ]))|((with_reducible refine gate_store (t:=91) (p:=7) rfl ?_);refine gSt [.int .i64 (rd_T91 l0_5 i).f0,.int .i64 (rd_T91 l0_5 i).f1,.slice A2 (rd_T91 l0_5 i).f2.length c2,.int .i64 (rd_T91 l0_5 i).f3.f0,.int .i64 (rd_T91 l0_5 i).f3.f1,.int .i64 (rd_T91 l0_5 i).f3.f2] #[.int .i64 (rd_T91 l0_5 i).f0,.int .i64 (rd_T91 l0_5 i).f1,.slice A2 (rd_T91 l0_5 i).f2.length c2,.int .i64 (rd_T91 l0_5 i).f3.f0,.int .i64 (rd_T91 l0_5 i).f3.f1,.int .i64 (rd_T91 l0_5 i).f3.f2] B7.out ?_;intro w7 hw hbox;have hb:=hw.below HW7.out HN7.out;replace B7:=aM hbox;replace HD:=aM (HD.out.below hb);replace B4:=aM (blk_below B4.out hb);replace B5:=aM (blk_below B5.out hb);replace HB:=aM (below_step HB.out hb);clear hw hbox hb HW7 HN7 hx0 hx1 hx2 hx3 hx4 hx5)|(refine g_D 24 ?_;refine gLv (some 24) 22 cap HF.out HN.out HY.out #[.int .i64 i] ?_;refine(HC.out _ i false _ HB.out A5.out).mono ?_;rintro e_ w8 ⟨rfl,hb⟩;refine⟨_,rfl,?_⟩;replace HD:=aM (HD.out.below hb);replace B4:=aM (blk_below B4.out hb);replace B5:=aM (blk_below B5.out hb);replace B7:=aM (blk_below B7.out hb);replace HB:=aM (below_step HB.out hb);clear hb;(simp only[Act.put,List.setIfInBounds_toArray,List.set_cons_zero,List.set_cons_succ])))
            go_roundg k1
            case measure=>have:=HK1.out;omega
            case rel=>exact⟨_,_,_,_,_,_,_,_,rfl,H',⟨by have:=HK1.out;omega⟩,B5,B4,HD,HB⟩
        · rw[if_neg c3] at H
          have c3b:decide (i<(l0_5.length:Int))=false:=decide_eq_false c3
          clear c3
          obtain⟨rfl,rfl,rfl,rfl,rfl⟩:a=s1∧b=s2∧c=s3∧d=s4∧e=s5:=by simpa using H
          clear H
          obtain⟨A1'',c1'',h1'⟩:=Kd.R_slice HD.out.1
          subst h1'
          obtain⟨A2'',c2'',h2'⟩:=Kd.R_slice HD.out.2.1
          subst h2'
          go_wp2_with (first|((with_reducible refine gate_store (t:=37) (p:=28) rfl ?_);refine gSt [.slice none 0 0] #[.slice A1'' a.length c1'',.slice A2'' b.length c2'',.int .i64 c,.int .i64 d,.int .i64 e,.slice none 0 0] B5.out ?_;intro w7 hw hbox;replace HD:=aM (HD.out.off B5.out hw);replace B5:=aM hbox;replace B4:=aM ((hw.2.2 g4 N4.out).trans B4.out);replace HB:=aM (hw.below HB.out HG5.out);clear hw hbox)|(refine g_D 29 ?_;refine gLd 29 B5.out ?_;(simp only[Act.put,List.setIfInBounds_toArray,List.set_cons_zero,List.set_cons_succ]))|((with_reducible refine gate_store (t:=39) (p:=4) rfl ?_);refine gSt [.slice A1'' a.length c1'',.slice A2'' b.length c2'',.int .i64 c,.int .i64 d,.int .i64 e,.slice none 0 0] #[.slice A1'' a.length c1'',.slice A2'' b.length c2'',.int .i64 c,.int .i64 d,.int .i64 e,.slice none 0 0] B4.out ?_;intro w10 hw hbox;replace HD:=aM (HD.out.off B4.out hw);replace B4:=aM hbox;replace HB:=aM (hw.below HB.out HG4.out);clear hw hbox))
          refine bodyPost_ret (results_cell_row rfl _ _ g4 39 _ (0,0) _ rfl B4.out hu39 rfl (by kernel_rfl)) rfl ?_
          exact⟨_,_,_,rfl,HD.out.1,HD.out.2.1,Kd.S_nil _ _ _ _ _,HB.out⟩
def impl_Sure.f (k:Nat)(l0_0:List Int)(l0_1:List Int)(a0_2:Int)(a0_3:Int)(a0_4:Int)(l0_5:List S91):Option (List Int×List Int×Int×Int×Int×List S91):=impl_Disk_settled.f k (fun _ _=>some true) l0_0 l0_1 a0_2 a0_3 a0_4 l0_5
theorem impl_Sure.mono :∀y0 y1 y2 y3 y4 y5 k,LeO (impl_Sure.f k y0 y1 y2 y3 y4 y5) (impl_Sure.f (k+1) y0 y1 y2 y3 y4 y5):=by
  intro y0 y1 y2 y3 y4 y5 k;exact impl_Disk_settled.mono (fun _ _=>some true) (fun _ _ _ h=>h) y0 y1 y2 y3 y4 y5 k
theorem impl_Sure.calls {k:Nat}{am:Option Addr}{al:Nat}{ab:List Int}{ak:Option Addr}{ai:Nat}{aa:List Int}{ae:Int}{ag:Int}{af:Int}{ah:Option Addr}{aj:Nat}{ac:List (S91)}{r1:List Int}{r2:List Int}{r3:Int}{r4:Int}{r5:Int}{r6:List (S91)}{w:World}(ao:Kd.C (Kd.int .u8) w am ab.length ab)(ar:ab.length≤al)(aq:Kd.C (Kd.int .u8) w ak aa.length aa)(ap:aa.length≤ai)(an:Kd.C k91 w ah ac.length ac)(au:ac.length≤aj)(h:impl_Sure.f k ab aa ae ag af ac=some (r1,r2,r3,r4,r5,r6)):
  Calls Tryz.prog 37 #[.agg #[.slice am ab.length al,.slice ak aa.length ai,.int .i64 ae,.int .i64 ag,.int .i64 af,.slice ah ac.length aj]] w fun e w'=>∃v0_ v1_ v5_:Value,e=.returned (.agg #[v0_,v1_,.int .i64 r3,.int .i64 r4,.int .i64 r5,v5_])∧Kd.R (Kd.int .u8) 5 w' w.heap.size (fun k_=>some k_≠(v1_:Value).ownBlock) v0_ r1∧Kd.R (Kd.int .u8) 5 w' w.heap.size (fun k_=>some k_≠(v0_:Value).ownBlock) v1_ r2∧Kd.S k91 91 w' w.heap.size (fun k_=>some k_≠(v0_:Value).ownBlock∧some k_≠(v1_:Value).ownBlock) v5_ r6∧Below w.heap.size w w':=by
 have hu39:=Tryz.underlying39;have HR0:=aM (And.intro ao ar);have HR1:=aM (And.intro aq ap);have HR5:=aM (And.intro an au);have HB:=aM (Below.refl w.heap.size w);have H1:=aM (show impl_Disk_settled.f k (fun _ _=>some true) ab aa ae ag af ac=some (r1,r2,r3,r4,r5,r6) from h);clear ao ar aq ap an au h;go_enter Tryz.func37,Tryz.ntmps37;go_wp2_with (first|(refine g_D 1 ?_;refine gBx 1 #[.slice am ab.length al,.slice ak aa.length ai,.int .i64 ae,.int .i64 ag,.int .i64 af,.slice ah ac.length aj] 39 ?_;intro gq1 hg w2 hbox hb;have Bq1:=aM hbox;replace HB:=aM (below_step HB.out hb);clear hb hbox hg;(simp only[Act.put,List.setIfInBounds_toArray,List.set_cons_zero,List.set_cons_succ]))|(refine g_D 2 ?_;refine gBx 2 #[.slice none 0 0,.slice none 0 0,.int .i64 0,.int .i64 0,.int .i64 0,.slice none 0 0] 39 ?_;intro g2 hg w2 hbox hb;have B2:=aM hbox;have HGq1:=aM (show w.heap.size≤g2 by rw[hg];exact HB.out.size);replace Bq1:=aM (blk_below Bq1.out hb);replace HB:=aM (below_step HB.out hb);clear hb hbox hg;(simp only[Act.put,List.setIfInBounds_toArray,List.set_cons_zero,List.set_cons_succ]))|(refine g_D 3 ?_;refine gLd 3 Bq1.out ?_;(simp only[Act.put,List.setIfInBounds_toArray,List.set_cons_zero,List.set_cons_succ]))|(refine g_C 71 ?_;refine gL (some 4) Tryz.func71 #[.agg #[.slice am ab.length al,.slice ak aa.length ai,.int .i64 ae,.int .i64 ag,.int .i64 af,.slice ah ac.length aj],.func (.func 72) #[] #[]] ?_;refine(impl_Disk_settled.calls (fun _ _=>some true) 72 Tryz.f72 #[] _ _ ab _ _ aa ae ag af _ _ ac r1 r2 r3 r4 r5 r6 _ (Kd.C_below HR0.out.1 HB.out) HR0.out.2 (Kd.C_below HR1.out.1 HB.out) HR1.out.2 (Kd.C_below HR5.out.1 HB.out) HR5.out.2 Tryz.func72 (by kernel_rfl) rfl (fun _ i t w' _ ht=>by cases ht;exact(impl_Sure_1.calls rfl).mono (fun e w2 q=>⟨q.1,q.2.below⟩)) H1.out).mono ?_;rintro e w5 ⟨vA,vB,vP,rfl,ho1,ho2,ho3,hb⟩;refine⟨_,rfl,?_⟩;have HD:=aM (show Dsk w5 w.heap.size vA vB vP r1 r2 r6 from⟨Kd.R_lower ho1 HB.out.size,Kd.R_lower ho2 HB.out.size,Kd.S_lower ho3 HB.out.size⟩);replace B2:=aM (blk_below B2.out hb);replace HB:=aM (below_step HB.out hb);clear ho1 ho2 ho3 hb;obtain⟨A1',c1',h1'⟩:=Kd.R_slice HD.out.1;subst h1';obtain⟨A2',c2',h2'⟩:=Kd.R_slice HD.out.2.1;subst h2';obtain⟨A3',c3',h3'⟩:=Kd.S_slice HD.out.2.2;subst h3';(simp only[Act.put,List.setIfInBounds_toArray,List.set_cons_zero,List.set_cons_succ]))|((with_reducible refine gate_store (t:=39) (p:=2) rfl ?_);refine gSt [.slice A1' r1.length c1',.slice A2' r2.length c2',.int .i64 r3,.int .i64 r4,.int .i64 r5,.slice A3' r6.length c3'] #[.slice A1' r1.length c1',.slice A2' r2.length c2',.int .i64 r3,.int .i64 r4,.int .i64 r5,.slice A3' r6.length c3'] B2.out ?_;intro w10 hw hbox;replace HD:=aM (HD.out.off B2.out hw);replace B2:=aM hbox;replace HB:=aM (hw.below HB.out HGq1.out);clear hw hbox))
 refine bodyPost_ret (results_cell_row rfl _ _ g2 39 _ (0,0) _ rfl B2.out hu39 rfl (by kernel_rfl)) rfl ?_;exact⟨_,_,_,rfl,HD.out.1,HD.out.2.1,HD.out.2.2,HB.out⟩
def impl_PutRecord.f (k:Nat)(l0_0:List Int)(l0_1:List Int)(a0_2:Int)(a0_3:Int)(a0_4:Int)(l0_5:List (S91))(a1_0:Int)(a1_1:Int)(a1_2:Int):Option (List Int×List Int×Int×Int×Int×(List (S91))×Bool):=(impl_Disk_with.f k l0_0 l0_1 a0_2 a0_3 a0_4 l0_5 2 0 ([]:List Int) a1_0 a1_1 a1_2).bind fun bt870=>(some (bt870.1,bt870.2.1,bt870.2.2.1,bt870.2.2.2.1,bt870.2.2.2.2.1,bt870.2.2.2.2.2.1,bt870.2.2.2.2.2.2))
theorem impl_PutRecord.mono :∀a0 a1 a2 a3 a4 a5 a6 a7 a8 k,LeO (impl_PutRecord.f k a0 a1 a2 a3 a4 a5 a6 a7 a8) (impl_PutRecord.f (k+1) a0 a1 a2 a3 a4 a5 a6 a7 a8):=by
  intro a0 a1 a2 a3 a4 a5 a6 a7 a8 k;have m0_:=@impl_Disk_with.mono;unfold impl_PutRecord.f;exact LM
theorem impl_PutRecord.calls {k:Nat}{A0_0:Option Addr}{c0_0:Nat}{l0_0:List Int}{A0_1:Option Addr}{c0_1:Nat}{l0_1:List Int}{a0_2:Int}{a0_3:Int}{a0_4:Int}{A0_5:Option Addr}{c0_5:Nat}{l0_5:List (S91)}{a1_0:Int}{a1_1:Int}{a1_2:Int}{r1:List Int}{r2:List Int}{r3:Int}{r4:Int}{r5:Int}{r6:List (S91)}{r7:Bool}{w:World}(hr0_0:Kd.C (Kd.int .u8) w A0_0 l0_0.length l0_0)(hc0_0:l0_0.length≤c0_0)(hr0_1:Kd.C (Kd.int .u8) w A0_1 l0_1.length l0_1)(hc0_1:l0_1.length≤c0_1)(hr0_5:Kd.C k91 w A0_5 l0_5.length l0_5)(hc0_5:l0_5.length≤c0_5)(h:impl_PutRecord.f k l0_0 l0_1 a0_2 a0_3 a0_4 l0_5 a1_0 a1_1 a1_2=some (r1,r2,r3,r4,r5,r6,r7)):
    Calls Tryz.prog 38 #[.agg #[.slice A0_0 l0_0.length c0_0,.slice A0_1 l0_1.length c0_1,.int .i64 a0_2,.int .i64 a0_3,.int .i64 a0_4,.slice A0_5 l0_5.length c0_5],.agg #[.int .i64 a1_0,.int .i64 a1_1,.int .i64 a1_2]] w fun e w'=>∃v0_ v1_ v5_:Value,e=.returned (.tuple #[.agg #[v0_,v1_,.int .i64 r3,.int .i64 r4,.int .i64 r5,v5_],.bool r7])∧Kd.R (Kd.int .u8) 5 w' w.heap.size (fun k_=>some k_≠(v1_:Value).ownBlock) v0_ r1∧Kd.R (Kd.int .u8) 5 w' w.heap.size (fun k_=>some k_≠(v0_:Value).ownBlock) v1_ r2∧Kd.S k91 91 w' w.heap.size (fun k_=>some k_≠(v0_:Value).ownBlock∧some k_≠(v1_:Value).ownBlock) v5_ r6∧Below w.heap.size w w':=by
  have huq1:=Tryz.underlying39
  have huq2:=Tryz.underlying36
  have huq3:=Tryz.underlying91
  have HRq1:=aM hr0_0
  have HCq1:=aM hc0_0
  clear hr0_0 hc0_0
  have HRq2:=aM hr0_1
  have HCq2:=aM hc0_1
  clear hr0_1 hc0_1
  have HRq3:=aM hr0_5
  have HCq3:=aM hc0_5
  clear hr0_5 hc0_5
  have HB:=aM (Below.refl w.heap.size w)
  have H:=h
  clear h
  unfold impl_PutRecord.f at H
  replace H:=bE H
  obtain⟨⟨tq1,tq2,tq3,tq4,tq5,tq6,tq7⟩,Aq1,H⟩:=H
  dsimp only at H
  simp only[Option.some.injEq,Prod.mk.injEq] at H
  obtain⟨rfl,rfl,rfl,rfl,rfl,rfl,rfl⟩:=H
  go_enter Tryz.func38,Tryz.ntmps38
  go_wp2_with (first|(refine g_D 2 ?_;refine gBx 2 #[.slice A0_0 l0_0.length c0_0,.slice A0_1 l0_1.length c0_1,.int .i64 a0_2,.int .i64 a0_3,.int .i64 a0_4,.slice A0_5 l0_5.length c0_5] 39 ?_;intro gbq1 hg wq1 hbox hb;have BKq1:=aM (hbox);have GWq1:=gW HB hg;have GEq1:=gW HB hg;replace HB:=bS HB hb;clear hb hbox hg)|(refine g_D 3 ?_;refine gBx 3 #[.int .i64 a1_0,.int .i64 a1_1,.int .i64 a1_2] 36 ?_;intro gbq2 hg wq2 hbox hb;have BKq2:=aM (hbox);have GWq2:=gW HB hg;have GEq2:=gW HB hg;obtain⟨NBq1,NBq2⟩:=nB BKq1 hg;replace BKq1:=mB BKq1 hb;replace HB:=bS HB hb;clear hb hbox hg)|(refine g_D 4 ?_;refine gBx 4 #[.slice none 0 0,.slice none 0 0,.int .i64 0,.int .i64 0,.int .i64 0,.slice none 0 0] 39 ?_;intro gbq3 hg wq3 hbox hb;have BKq3:=aM (hbox);have GWq3:=gW HB hg;have GEq3:=gW HB hg;obtain⟨NBq3,NBq4⟩:=nB BKq1 hg;obtain⟨NBq5,NBq6⟩:=nB BKq2 hg;replace BKq1:=mB BKq1 hb;replace BKq2:=mB BKq2 hb;replace HB:=bS HB hb;clear hb hbox hg;obtain⟨hnbq1,hncq1⟩:=oB NBq1;obtain⟨hnbq2,hncq2⟩:=oB NBq3;obtain⟨hczq1,hczq2,hczq3,hczq4,hczq5,hczq6⟩:=cz6 BKq1.out;obtain⟨hfzq1,hfzq2,hfzq3,hfzq4,hfzq5,hfzq6⟩:=fz6 BKq1.out;obtain⟨hnbq3,hncq3⟩:=oB NBq5;obtain⟨hczq7,hczq8,hczq9⟩:=cz3 BKq2.out;obtain⟨hfzq7,hfzq8,hfzq9⟩:=fz3 BKq2.out)|(refine g_C 73 ?_;refine gL (some 9) Tryz.func73 #[.agg #[.slice A0_0 l0_0.length c0_0,.slice A0_1 l0_1.length c0_1,.int .i64 a0_2,.int .i64 a0_3,.int .i64 a0_4,.slice A0_5 l0_5.length c0_5],.agg #[.int .i64 2,.int .i64 0,.slice none 0 0,.int .i64 a1_0,.int .i64 a1_1,.int .i64 a1_2]] ?_;(refine(impl_Disk_with.calls ?side1 ?side2 ?side3 ?side4 ?side5 ?side6 ?side7 ?side8 Aq1.out).mono ?_);(case side1=>have X_:=(Kd.C_below HRq1.out HB.out);exact TC);(case side2=>exact HCq1.out);(case side3=>have X_:=(Kd.C_below HRq2.out HB.out);exact TC);(case side4=>exact HCq2.out);(case side5=>have X_:=(Kd.C_below HRq3.out HB.out);exact TC);(case side6=>exact HCq3.out);(case side7=>exact Kd.C_nil _ _);(case side8=>exact Nat.le_refl _);rintro e wq4 ⟨vq1,vq2,vq3,rfl,hoq1,hoq2,hoq3,hb⟩;refine⟨_,rfl,?_⟩;have HOq1:=aM (Kd.R_lower hoq1 (below_size TB));have HOq2:=aM (Kd.R_lower hoq2 (below_size TB));have HOq3:=aM (Kd.S_lower hoq3 (below_size TB));replace BKq1:=mB BKq1 hb;replace BKq2:=mB BKq2 hb;replace BKq3:=mB BKq3 hb;replace HB:=bS HB hb;clear hoq1 hoq2 hoq3 hb;obtain⟨Aoq1,coq1,eoq1⟩:=Kd.R_slice HOq1.out;subst eoq1;obtain⟨hczq10,hczq11,hczq12,hczq13,hczq14,hczq15⟩:=cz6 BKq3.out;obtain⟨hfzq10,hfzq11,hfzq12,hfzq13,hfzq14,hfzq15⟩:=fz6 BKq3.out;obtain⟨Aoq2,coq2,eoq2⟩:=Kd.R_slice HOq2.out;subst eoq2;obtain⟨Aoq3,coq3,eoq3⟩:=Kd.S_slice HOq3.out;subst eoq3))
  refine bodyPost_ret (results_ct rfl _ _ gbq3 39 #[.slice Aoq1 tq1.length coq1,.slice Aoq2 tq2.length coq2,.int .i64 tq3,.int .i64 tq4,.int .i64 tq5,.slice Aoq3 tq6.length coq3] (0,0) _ rfl (blk_put (blk_put (blk_put (blk_put (blk_put (blk_put (cs:=#[.slice none 0 0,.slice none 0 0,.int .i64 0,.int .i64 0,.int .i64 0,.slice none 0 0]) (TZ BKq3) 0 _ rfl) 1 _ rfl) 2 _ rfl) 3 _ rfl) 4 _ rfl) 5 _ rfl) Tryz.underlying39 rfl (by kernel_rfl)) rfl ?_
  exact⟨_,_,_,TE,by (with_reducible repeat (first|apply Kd.R_alloc|apply Kd.R_drewN|apply Kd.R_drew));exact Kd.R_mono (RK1 (Kd.R_types HOq1.out BKq3.out (by decide))) (fun _ hk=>hk.1),by (with_reducible repeat (first|apply Kd.R_alloc|apply Kd.R_drewN|apply Kd.R_drew));exact Kd.R_mono (RK1 (Kd.R_types HOq2.out BKq3.out (by decide))) (fun _ hk=>hk.1),by (with_reducible repeat (first|apply Kd.S_alloc|apply Kd.S_drewN|apply Kd.S_drew));exact Kd.S_mono (SK1 (Kd.S_types HOq3.out BKq3.out (by decide))) (fun _ hk=>⟨hk.1.1,hk.1.2⟩),TB⟩
end Go.Proofs.YtjgmkkogmfogbaaGreat.Q
