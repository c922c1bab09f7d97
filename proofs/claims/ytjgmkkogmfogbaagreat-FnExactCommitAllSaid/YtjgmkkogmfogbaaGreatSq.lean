/- A block's cells, told all at once. No condition. -/
import Derived.Test.YtjgmkkogmfogbaaGreatWWords
namespace Go.Proofs.YtjgmkkogmfogbaaGreat.Q
open Go Go.RowKit Go.Proofs.YtjgmkkogmfogbaaGreatW.PrintWords Go.Proofs.YtjgmkkogmfogbaaGreatW.PrintLast
set_option linter.unusedVariables false
theorem cz2 {w:World}{g:Nat}{t:TypeId}{v0 v1:Value}(h:w.heap[g]?=some (.cells #[v0,v1] t (0,0))):w.cell? ⟨g,0,none⟩=some v0∧w.cell? ⟨g,1,none⟩=some v1:=
 ⟨(blk_cell h 0).trans rfl,(blk_cell h 1).trans rfl⟩
theorem fz2 {w:World}{g:Nat}{t:TypeId}{cs:Array Value}(h:w.heap[g]?=some (.cells cs t (0,0))):w.frozen? ⟨g,0,none⟩=false∧w.frozen? ⟨g,1,none⟩=false:=
 ⟨blk_frozen h 0,blk_frozen h 1⟩
theorem cz3 {w:World}{g:Nat}{t:TypeId}{v0 v1 v2:Value}(h:w.heap[g]?=some (.cells #[v0,v1,v2] t (0,0))):w.cell? ⟨g,0,none⟩=some v0∧w.cell? ⟨g,1,none⟩=some v1∧w.cell? ⟨g,2,none⟩=some v2:=
 ⟨(blk_cell h 0).trans rfl,(blk_cell h 1).trans rfl,(blk_cell h 2).trans rfl⟩
theorem fz3 {w:World}{g:Nat}{t:TypeId}{cs:Array Value}(h:w.heap[g]?=some (.cells cs t (0,0))):w.frozen? ⟨g,0,none⟩=false∧w.frozen? ⟨g,1,none⟩=false∧w.frozen? ⟨g,2,none⟩=false:=
 ⟨blk_frozen h 0,blk_frozen h 1,blk_frozen h 2⟩
theorem cz4 {w:World}{g:Nat}{t:TypeId}{v0 v1 v2 v3:Value}(h:w.heap[g]?=some (.cells #[v0,v1,v2,v3] t (0,0))):w.cell? ⟨g,0,none⟩=some v0∧w.cell? ⟨g,1,none⟩=some v1∧w.cell? ⟨g,2,none⟩=some v2∧w.cell? ⟨g,3,none⟩=some v3:=
 ⟨(blk_cell h 0).trans rfl,(blk_cell h 1).trans rfl,(blk_cell h 2).trans rfl,(blk_cell h 3).trans rfl⟩
theorem fz4 {w:World}{g:Nat}{t:TypeId}{cs:Array Value}(h:w.heap[g]?=some (.cells cs t (0,0))):w.frozen? ⟨g,0,none⟩=false∧w.frozen? ⟨g,1,none⟩=false∧w.frozen? ⟨g,2,none⟩=false∧w.frozen? ⟨g,3,none⟩=false:=
 ⟨blk_frozen h 0,blk_frozen h 1,blk_frozen h 2,blk_frozen h 3⟩
theorem cz6 {w:World}{g:Nat}{t:TypeId}{v0 v1 v2 v3 v4 v5:Value}(h:w.heap[g]?=some (.cells #[v0,v1,v2,v3,v4,v5] t (0,0))):w.cell? ⟨g,0,none⟩=some v0∧w.cell? ⟨g,1,none⟩=some v1∧w.cell? ⟨g,2,none⟩=some v2∧w.cell? ⟨g,3,none⟩=some v3∧w.cell? ⟨g,4,none⟩=some v4∧w.cell? ⟨g,5,none⟩=some v5:=
 ⟨(blk_cell h 0).trans rfl,(blk_cell h 1).trans rfl,(blk_cell h 2).trans rfl,(blk_cell h 3).trans rfl,(blk_cell h 4).trans rfl,(blk_cell h 5).trans rfl⟩
theorem fz6 {w:World}{g:Nat}{t:TypeId}{cs:Array Value}(h:w.heap[g]?=some (.cells cs t (0,0))):w.frozen? ⟨g,0,none⟩=false∧w.frozen? ⟨g,1,none⟩=false∧w.frozen? ⟨g,2,none⟩=false∧w.frozen? ⟨g,3,none⟩=false∧w.frozen? ⟨g,4,none⟩=false∧w.frozen? ⟨g,5,none⟩=false:=
 ⟨blk_frozen h 0,blk_frozen h 1,blk_frozen h 2,blk_frozen h 3,blk_frozen h 4,blk_frozen h 5⟩
theorem TB {p:Prop}(h:p:=by repeat (first|(with_reducible first|exact HB.out|apply below_alloc|apply pw_below_drewN|apply below_drew1|refine below_set ?_ (Aside0.out (by assumption)))|exact HB.out)):p:=h
theorem TK {p:Prop}(h:p:=by (with_reducible repeat (first|refine blk_drewN ?_ _|refine blk_drew ?_|refine blk_alloc ?_ _));exact Aside0.out (by first|(with_reducible assumption)|assumption)):p:=h
theorem TR {p:Prop}(h:p:=by (with_reducible repeat (first|apply Kd.R_alloc|apply Kd.R_drewN|apply Kd.R_drew));exact X_):p:=h
theorem TS {p:Prop}(h:p:=by (with_reducible repeat (first|apply Kd.S_alloc|apply Kd.S_drewN|apply Kd.S_drew));exact X_):p:=h
theorem TC {p:Prop}(h:p:=by repeat (first|exact X_|(with_reducible refine Kd.C_alloc ?_ _)|(with_reducible refine Kd.C_drewN ?_ _)|(with_reducible refine Kd.C_drew ?_))):p:=h
theorem TD {p:Prop}(h:p:=by repeat (first|exact Drawn0.refl _|apply Drawn0.step)):p:=h
theorem DT {p:Prop}[Decidable p](h:decide p=true:=by first|(with_reducible assumption)|assumption):p:=of_decide_eq_true h
theorem bE {α β:Type}{x:Option α}{f:α→Option β}{r:β}(h:x.bind f=some r):∃t,Aside0 (x=some t)∧f t=some r:=by
 obtain⟨t,a,b⟩:=Option.bind_eq_some_iff.mp h
 exact⟨t,⟨a⟩,b⟩
theorem someE {α β:Type}{e y:α}{f:α→Option β}{r:Option β}(h:(some e).bind f=r)(hy:y=e):f y=r:=by subst hy;exact h
theorem ifT {α:Type}{a b r:α}(h:(if true=true then a else b)=r):a=r:=by rw[if_pos rfl] at h;exact h
theorem LM {p:Prop}(h:p:=by repeat' first|(with_reducible exact LeO.refl _)|(with_reducible exact LeO.none _)|(with_reducible refine LeO.ite ?_ ?_)|(with_reducible refine LeO.bind ?_ (fun _=>?_))|(with_reducible apply_assumption)|exact LeO.none _|refine LeO.ite ?_ ?_|refine LeO.bind ?_ (fun _=>?_)|apply_assumption):p:=h
theorem ifN {α:Type}{c:Prop}[Decidable c]{a:Option α}{r:α}(h:(if c then a else none)=some r):c∧a=some r:=by
 by_cases q:c
 ·rw[if_pos q] at h;exact⟨q,h⟩
 ·rw[if_neg q] at h;cases h
theorem ifM {α:Type}{c:Prop}[Decidable c]{a:Option α}{r:α}(h:(if c then none else a)=some r):¬c∧a=some r:=by
 by_cases q:c
 ·rw[if_pos q] at h;cases h
 ·rw[if_neg q] at h;exact⟨q,h⟩
theorem aM {p:Prop}(h:p):Aside0 p:=⟨h⟩
theorem TX {p:Prop}(h:p:=by (with_reducible repeat (first|refine blk_drewN ?_ _|refine blk_drew ?_|refine blk_alloc ?_ _));exact X_):p:=h
inductive Off (g : Nat) (w : World) : World → Prop
 |refl:Off g w w
 |step {w1:World} (h:Off g w w1) (j:Nat) (v:Value):Off g w (w1.setCell ⟨g,j,none⟩ v)
theorem TO {p:Prop}(h:p:=by (with_reducible repeat (refine Off.step ?_ _ _));exact Off.refl):p:=h
section
variable {α : Type} {d : Kd α} {e base g : Nat} {ok : Nat → Prop} {w w1 : World} {v : Value} {xs : List α}
theorem R_off (h:d.R e w base (fun k=>ok k∧k≠g) v xs)(ho:Off g w w1):d.R e w1 base ok v xs:=by
 refine Kd.R_mono (ok:=fun k=>ok k∧k≠g) ?_ (fun _ q=>q.1)
 induction ho with
 |refl=>exact h
 |step _ j u ih=>exact Kd.R_far (p:=⟨g,j,none⟩) ih (fun _ q=>q.2) u
theorem S_off (h:d.S e w base (fun k=>ok k∧k≠g) v xs)(ho:Off g w w1):d.S e w1 base ok v xs:=by
 refine Kd.S_mono (ok:=fun k=>ok k∧k≠g) ?_ (fun _ q=>q.1)
 induction ho with
 |refl=>exact h
 |step _ j u ih=>exact Kd.S_far (p:=⟨g,j,none⟩) ih (fun _ q=>q.2) u
end
theorem TZ {g:Nat}{o:Obj}{w w1:World}(f:Aside0 (w.heap[g]?=some o))(h:w.heap[g]?=some o→w1.heap[g]?=some o:=by intro X_;repeat (first|(with_reducible first|exact X_|refine blk_drewN ?_ _|refine blk_drew ?_|refine blk_alloc ?_ _)|refine blk_far ?_ (Aside0.out (by assumption)) _)):w1.heap[g]?=some o:=h f.out
theorem TRf {q p:Prop}(f:Aside0 q)(h:q→p:=by intro X_;(with_reducible repeat (first|apply Kd.R_alloc|apply Kd.R_drewN|apply Kd.R_drew));exact X_):p:=h f.out
theorem TY {a b p:Prop}(x:Aside0 a)(y:Aside0 b)(h:a→b→p:=by intro X_ Y_;(with_reducible repeat (first|apply Kd.R_alloc|apply Kd.R_drewN|apply Kd.R_drew));exact(R_off (Kd.R_types X_ Y_ (by decide)) TO)):p:=h x.out y.out
section
variable {g g1 g2 e base : Nat} {α : Type} {d : Kd α} {ok : Nat → Prop} {w w1 w2 w3 : World} {v : Value} {xs : List α}
theorem mB {o:Obj}(f:Aside0 (w1.heap[g]?=some o))(hb:Below w2.heap.size w2 w3)(h:w1.heap[g]?=some o→w2.heap[g]?=some o:=by intro X_;repeat (first|(with_reducible first|exact X_|refine blk_drewN ?_ _|refine blk_drew ?_|refine blk_alloc ?_ _)|refine blk_far ?_ (Aside0.out (by assumption)) _)):Aside0 (w3.heap[g]?=some o):=⟨blk_below (h f.out) hb⟩
theorem nB {o:Obj}(f:Aside0 (w1.heap[g]?=some o))(hg:g1=w2.heap.size)(h:w1.heap[g]?=some o→w2.heap[g]?=some o:=by intro X_;repeat (first|(with_reducible first|exact X_|refine blk_drewN ?_ _|refine blk_drew ?_|refine blk_alloc ?_ _)|refine blk_far ?_ (Aside0.out (by assumption)) _)):Aside0 (g≠g1)∧Aside0 (g1≠g):=
 ⟨⟨by rw[hg];exact Nat.ne_of_lt (blk_lt (h f.out))⟩,⟨by rw[hg];exact Nat.ne_of_gt (blk_lt (h f.out))⟩⟩
theorem gW (f:Aside0 (Below w.heap.size w w1))(hg:g=w2.heap.size)(h:Below w.heap.size w w1→Below w.heap.size w w2:=by intro X_;repeat (first|(with_reducible first|exact X_|apply below_alloc|apply pw_below_drewN|apply below_drew1|refine below_set ?_ (Aside0.out (by assumption)))|exact X_)):Aside0 (w.heap.size≤g):=⟨by rw[hg];exact below_size (h f.out)⟩
theorem mR (f:Aside0 (d.R e w1 base ok v xs))(hb:Below w2.heap.size w2 w3)(h:d.R e w1 base ok v xs→d.R e w2 base ok v xs:=by intro X_;(with_reducible repeat (first|apply Kd.R_alloc|apply Kd.R_drewN|apply Kd.R_drew));exact X_):Aside0 (d.R e w3 base ok v xs):=⟨Kd.R_below (h f.out) hb⟩
theorem bC {t:TypeId}{cs:Array Value}(f:Aside0 (w.heap[g]?=some (.cells cs t (0,0))))(i:Nat){u:Value}(h:cs[i]?=some u:=by rfl):w.cell? ⟨g,i,none⟩=some u:=(blk_cell f.out i).trans h
theorem cf {q p:Prop}(X_:q)(h:q→p:=by intro X_;repeat (first|(with_reducible exact X_)|refine(cell_far (Aside0.out (by assumption)) _).trans ?_|exact X_)):p:=h X_
inductive Off1 (g : Nat) (w : World) : World → Prop
 |refl:Off1 g w w
 |step {w1:World} (h:Off1 g w w1) (j:Nat) (v:Value):Off1 g w (w1.setCell ⟨g,j,none⟩ v)
 |drewN {w1:World} (h:Off1 g w w1) (n:Nat):Off1 g w (w1.drewN n)
 |drew {w1:World} (h:Off1 g w w1):Off1 g w w1.drew
inductive Off2 (g1 g2 : Nat) (w : World) : World → Prop
 |refl:Off2 g1 g2 w w
 |one {w1:World} (h:Off2 g1 g2 w w1) (j:Nat) (v:Value):Off2 g1 g2 w (w1.setCell ⟨g1,j,none⟩ v)
 |two {w1:World} (h:Off2 g1 g2 w w1) (j:Nat) (v:Value):Off2 g1 g2 w (w1.setCell ⟨g2,j,none⟩ v)
 |drewN {w1:World} (h:Off2 g1 g2 w w1) (n:Nat):Off2 g1 g2 w (w1.drewN n)
 |drew {w1:World} (h:Off2 g1 g2 w w1):Off2 g1 g2 w w1.drew
theorem RK1 (h:d.R e w base (fun k=>ok k∧k≠g) v xs)(ho:Off1 g w w1:=by (with_reducible repeat (first|refine Off1.step ?_ _ _|refine Off1.drewN ?_ _|refine Off1.drew ?_));exact Off1.refl):d.R e w1 base (fun k=>ok k∧k≠g) v xs:=by
 induction ho with
 |refl=>exact h
 |step _ j u ih=>exact Kd.R_far (p:=⟨g,j,none⟩) ih (fun _ q=>q.2) u
 |drewN _ n ih=>exact Kd.R_drewN ih n
 |drew _ ih=>exact Kd.R_drew ih
theorem RK2 (h:d.R e w base (fun k=>(ok k∧k≠g1)∧k≠g2) v xs)(ho:Off2 g1 g2 w w1:=by (with_reducible repeat (first|refine Off2.two ?_ _ _|refine Off2.one ?_ _ _|refine Off2.drewN ?_ _|refine Off2.drew ?_));exact Off2.refl):d.R e w1 base (fun k=>(ok k∧k≠g1)∧k≠g2) v xs:=by
 induction ho with
 |refl=>exact h
 |one _ j u ih=>exact Kd.R_far (p:=⟨g1,j,none⟩) ih (fun _ q=>q.1.2) u
 |two _ j u ih=>exact Kd.R_far (p:=⟨g2,j,none⟩) ih (fun _ q=>q.2) u
 |drewN _ n ih=>exact Kd.R_drewN ih n
 |drew _ ih=>exact Kd.R_drew ih
end
theorem bS {w w1 w2 w3:World}(f:Aside0 (Below w.heap.size w w1))(hb:Below w2.heap.size w2 w3)(h:Below w.heap.size w w1→Below w.heap.size w w2:=by intro X_;repeat (first|(with_reducible first|exact X_|apply below_alloc|apply pw_below_drewN|apply below_drew1|refine below_set ?_ (Aside0.out (by assumption)))|exact X_)):Aside0 (Below w.heap.size w w3):=⟨below_step (h f.out) hb⟩
theorem bD {g:Nat}{o:Obj}{w:World}(f:Aside0 (w.heap[g]?=some o)):Aside0 (w.drew.heap[g]?=some o):=⟨blk_drew f.out⟩
theorem rD {α:Type}{d:Kd α}{e base:Nat}{ok:Nat→Prop}{w:World}{v:Value}{xs:List α}(f:Aside0 (d.R e w base ok v xs)):Aside0 (d.R e w.drew base ok v xs):=⟨Kd.R_drew f.out⟩
theorem oB {a b:Nat}(f:Aside0 (a≠b)):a≠b∧b≠a:=⟨f.out,f.out.symm⟩
theorem TE {p:Prop}(h:p:=by first|rfl|(simp [errW_none,errW_some]<;>rfl)|(simp [*,errW_none,errW_some]<;>rfl)):p:=h
theorem TF {p:Prop}(h:p:=by first|rfl|(simp;done)|(simp [*];done)):p:=h
theorem NP :(∀(a:Act) (N:Nat) (v:Value),a.put (some N) v={a with tmps:=a.tmps.setIfInBounds N v})∧(∀(a:Act) (v:Value),a.put none v=a)∧(∀(l:List Value) (i:Nat) (v:Value),l.toArray.setIfInBounds i v=(l.set i v).toArray)∧(∀(a:Value) (l:List Value) (b:Value),(a :: l).set 0 b=b :: l)∧(∀(a:Value) (l:List Value) (n:Nat) (b:Value),(a :: l).set (n+1) b=a :: l.set n b):=⟨fun _ _ _=>rfl,fun _ _=>rfl,fun l i v=>List.setIfInBounds_toArray l i v,fun _ _ _=>rfl,fun _ _ _ _=>rfl⟩
theorem ifF {α:Type}{a b r:α}(h:(if false=true then a else b)=r):b=r:=by rw[if_neg (by decide)] at h;exact h
section
variable {P : Program} {ops : Array Oper} {rest : List Oper} {o : Oper} {a : Act} {Q : Exit → Act → World → Prop}
theorem gL {w:World}(N:Option Tmp){f:FuncId}{fn:Func}{as:Array Operand}{ts:Array TypeId}(hf:P.funcs[f]?=some fn)(args:Array Value)
  (h:Calls P f args w fun e w'=>∃v,e=.returned v∧wpList P ops Q rest (a.put N v) w')
  (hd:o.dst=N:=by rfl) (hg:o.guard=none:=by rfl) (hname:(fn.name== "runtime.NumGoroutine")=false:=by kernel_rfl) (hb:fn.body.isSome=true:=by rfl)
  (hop:o.op=.call {callee:=.value (.func f),args:=as,argTypes:=ts}:=by rfl)
  (hargs:as.map a.eval=args:=by (try simp only[List.map_toArray,List.map_cons,List.map_nil]);first|done|rfl|(simp only[List.length_drop,List.length_take];rfl)):
  wpList P ops Q (o :: rest) a w:=goesL_ N hd hg hf hname hb args hop hargs h
theorem gBx {W:World}(N:Tmp)(cs:Array Value)(t:TypeId)
  (h:∀g,g=W.heap.size→∀w1,w1.heap[g]?=some (.cells cs t (0,0))→Below W.heap.size W w1→wpList P ops Q rest (a.put o.dst (.pointer (some ⟨g,0,none⟩))) w1)
  (hgd:o.guard=none:=by rfl) (hd:o.dst=some N:=by rfl)
  (hrun:(execOp a.eval o).run P W=.ok (.value (.pointer (some ⟨W.heap.size,0,none⟩))) (W.alloc (.cells cs t (0,0))):=by first|(go_simp;done)|(go_simp;rfl)):
  wpList P ops Q (o :: rest) a W:=box_event hgd hd hrun h
end
section
variable {P : Program} {md : Region.Mode} {ops : Array Oper} {Q : Exit → Act → World → Prop} {S : World → Prop} {ds : List Nat} {fuel : Nat} {l : Array Bool} {a a' : Act} {w : World} {oi : Oper} {v : Value}
theorem pPe (i:Nat)(N:Option Tmp)(l':Array Bool)(h:wpAnyLast P md ops Q S ds fuel l' a' w)
  (hi:ops[i]?=some oi:=by exact rfl) (hN:oi.dst=N:=by exact rfl)
  (hc:anyB md ops l l' i=true:=by first|exact any_of HT_.out (by kernel_rfl)|kernel_rfl)
  (hQ:∀c a w,Q (.panic c) (a.put oi.dst v) w→Q (.panic c) a w:=by exact fun _ _ _ h=>h)
  (hy:Yields P ops oi v a:=by exact Or.inl ⟨by rfl,by intro w';go_simp;with_reducible rfl⟩)
  (ha:a.put N v=a':=by first|(simp only[Act.put,List.setIfInBounds_toArray,List.set_cons_zero,List.set_cons_succ,i64_w,i32_w];rfl)|rfl):
  wpAnyLast P md ops Q S ds (fuel+1) l a w:=pure_ l' hi hN hc hQ hy ha h
theorem pTe (i:Nat)(N:Option Tmp)(l':Array Bool)(h:wpAnyLast P md ops Q S ds fuel l' a' w)
  (hi:ops[i]?=some oi:=by exact rfl) (hN:oi.dst=N:=by exact rfl)
  (hc:takeB md ops ds l l' i=true:=by first|exact take_ofW HT_.out HW_.out (by kernel_rfl)|kernel_rfl)
  (hQ:∀c a w,Q (.panic c) (a.put oi.dst v) w→Q (.panic c) a w:=by exact fun _ _ _ h=>h)
  (hy:YieldsIf P ops S oi v a:=by exact Or.inl ⟨by rfl,by intro w' hS_;(repeat (obtain⟨_,hS_⟩:_∧_:=hS_));go_simp;with_reducible rfl⟩) (hS:S w:=by exact hHeld)
  (ha:a.put N v=a':=by first|(simp only[Act.put,List.setIfInBounds_toArray,List.set_cons_zero,List.set_cons_succ,i64_w,i32_w];rfl)|rfl):
  wpAnyLast P md ops Q S ds (fuel+1) l a w:=take_ l' hi hN hc hQ hy hS ha h
theorem pO (i:Nat)(N:Option Tmp)
  (h:∀K:Act→World→Prop,Shut (∀a' w',S w'→(S w'→wpAnyLast P md ops Q S ds fuel (l.setIfInBounds i true) a' w')→K a' w')→if Region.wanted oi (yielded ops a.tmps)=true then Oper.wp P oi a w K Q else K (a.put N undef) w)
  (hi:ops[i]?=some oi:=by exact rfl) (hN:oi.dst=N:=by exact rfl)
  (hc:readyB md ops l (l.setIfInBounds i true) i=true:=by first|exact one_of HT_.out (by kernel_rfl)|kernel_rfl) (hd:i ∉ ds:=by decide):
  wpAnyLast P md ops Q S ds (fuel+1) l a w:=one_ _ hi hN hc hd h
theorem ppq (i:Nat)(N:Tmp)(h:wpAnyLast P md ops Q S ds fuel (l.setIfInBounds i true) a' w)
  (hi:ops[i]?=some oi:=by exact rfl) (hN:oi.dst=some N:=by exact rfl)
  (hc:anyB md ops l (l.setIfInBounds i true) i=true:=by first|exact any_of HT_.out (by kernel_rfl)|kernel_rfl)
  (hQ:∀c a w,Q (.panic c) (a.put oi.dst v) w→Q (.panic c) a w:=by exact fun _ _ _ h=>h)
  (hy:Yields P ops oi v a:=by exact Or.inl ⟨by rfl,by intro w';go_simp;with_reducible rfl⟩)
  (ha:a.put (some N) v=a':=by first|(simp only[Act.put,List.setIfInBounds_toArray,List.set_cons_zero,List.set_cons_succ,i64_w,i32_w];rfl)|rfl):
  wpAnyLast P md ops Q S ds (fuel+1) l a w:=pure_ _ hi hN hc hQ hy ha h
theorem pxq (i:Nat)(N:Tmp)(h:wpAnyLast P md ops Q S ds fuel (l.setIfInBounds i true) a' w)
  (hi:ops[i]?=some oi:=by exact rfl) (hN:oi.dst=some N:=by exact rfl)
  (hc:anyB md ops l (l.setIfInBounds i true) i=true:=by first|exact any_of HT_.out (by kernel_rfl)|kernel_rfl)
  (hQ:∀c a w,Q (.panic c) (a.put oi.dst undef) w→Q (.panic c) a w:=by exact fun _ _ _ h=>h)
  (hy:Yields P ops oi undef a:=by exact Or.inr ⟨by rfl,rfl⟩)
  (ha:a.put (some N) undef=a':=by first|(simp only[Act.put,List.setIfInBounds_toArray,List.set_cons_zero,List.set_cons_succ,i64_w,i32_w];rfl)|rfl):
  wpAnyLast P md ops Q S ds (fuel+1) l a w:=pure_ _ hi hN hc hQ hy ha h
theorem ptq (i:Nat)(N:Tmp)(h:wpAnyLast P md ops Q S ds fuel (l.setIfInBounds i true) a' w)
  (hi:ops[i]?=some oi:=by exact rfl) (hN:oi.dst=some N:=by exact rfl)
  (hc:takeB md ops ds l (l.setIfInBounds i true) i=true:=by first|exact take_ofW HT_.out HW_.out (by kernel_rfl)|kernel_rfl)
  (hQ:∀c a w,Q (.panic c) (a.put oi.dst v) w→Q (.panic c) a w:=by exact fun _ _ _ h=>h)
  (hy:YieldsIf P ops S oi v a:=by exact Or.inl ⟨by rfl,by intro w' hS_;(repeat (obtain⟨_,hS_⟩:_∧_:=hS_));go_simp;with_reducible rfl⟩) (hS:S w:=by exact hHeld)
  (ha:a.put (some N) v=a':=by first|(simp only[Act.put,List.setIfInBounds_toArray,List.set_cons_zero,List.set_cons_succ,i64_w,i32_w];rfl)|rfl):
  wpAnyLast P md ops Q S ds (fuel+1) l a w:=take_ _ hi hN hc hQ hy hS ha h
theorem poq (i:Nat)(N:Tmp)
  (h:∀K:Act→World→Prop,Shut (∀a' w',S w'→(S w'→wpAnyLast P md ops Q S ds fuel (l.setIfInBounds i true) a' w')→K a' w')→if Region.wanted oi (yielded ops a.tmps)=true then Oper.wp P oi a w K Q else K (a.put (some N) undef) w)
  (hi:ops[i]?=some oi:=by exact rfl) (hN:oi.dst=some N:=by exact rfl)
  (hc:readyB md ops l (l.setIfInBounds i true) i=true:=by first|exact one_of HT_.out (by kernel_rfl)|kernel_rfl) (hd:i ∉ ds:=by decide):
  wpAnyLast P md ops Q S ds (fuel+1) l a w:=one_ _ hi hN hc hd h
theorem pOe (i:Nat)(N:Option Tmp)(l':Array Bool)
  (h:∀K:Act→World→Prop,Shut (∀a' w',S w'→(S w'→wpAnyLast P md ops Q S ds fuel l' a' w')→K a' w')→if Region.wanted oi (yielded ops a.tmps)=true then Oper.wp P oi a w K Q else K (a.put N undef) w)
  (hi:ops[i]?=some oi:=by exact rfl) (hN:oi.dst=N:=by exact rfl)
  (hc:readyB md ops l l' i=true:=by first|exact one_of HT_.out (by kernel_rfl)|kernel_rfl) (hd:i ∉ ds:=by decide):
  wpAnyLast P md ops Q S ds (fuel+1) l a w:=one_ l' hi hN hc hd h
theorem pL (i:Nat)(N:Option Tmp)
  (h:∀K:Act→World→Prop,Shut (∀a' w',wpAnyLast P md ops Q S ds fuel (l.setIfInBounds i true) a' w'→K a' w')→if Region.wanted oi (yielded ops a.tmps)=true then Oper.wp P oi a w K Q else K (a.put N undef) w)
  (hi:ops[i]?=some oi:=by exact rfl) (hN:oi.dst=N:=by exact rfl)
  (hc:readyB md ops l (l.setIfInBounds i true) i=true:=by first|exact one_of HT_.out (by kernel_rfl)|kernel_rfl) (hd:i ∈ ds:=by decide):
  wpAnyLast P md ops Q S ds (fuel+1) l a w:=last_ _ hi hN hc hd h
theorem pLe (i:Nat)(N:Option Tmp)(l':Array Bool)
  (h:∀K:Act→World→Prop,Shut (∀a' w',wpAnyLast P md ops Q S ds fuel l' a' w'→K a' w')→if Region.wanted oi (yielded ops a.tmps)=true then Oper.wp P oi a w K Q else K (a.put N undef) w)
  (hi:ops[i]?=some oi:=by exact rfl) (hN:oi.dst=N:=by exact rfl)
  (hc:readyB md ops l l' i=true:=by first|exact one_of HT_.out (by kernel_rfl)|kernel_rfl) (hd:i ∈ ds:=by decide):
  wpAnyLast P md ops Q S ds (fuel+1) l a w:=last_ l' hi hN hc hd h
theorem nR (h:wpAnyLast P md ops Q S ds fuel l a' w)(ha:a=a':=by show Act.put _ (some _) _=_;simp only[Act.put,List.setIfInBounds_toArray,List.set_cons_zero,List.set_cons_succ,i64_w,i32_w];rfl):wpAnyLast P md ops Q S ds fuel l a w:=norm_ ha h
theorem gG {N:Option Tmp}{K:Act→World→Prop}{f:FuncId}{fn:Func}{as:Array Operand}{ts:Array TypeId}(hf:P.funcs[f]?=some fn)(args:Array Value)
  (h:Calls P f args w fun e w'=>∃v,e=.returned v∧K (a.put N v) w')
  (hname:(fn.name== "runtime.NumGoroutine")=false:=by kernel_rfl) (hb:fn.body.isSome=true:=by exact rfl)
  (hw:Region.wanted oi (yielded ops a.tmps)=true:=by rfl) (hN:oi.dst=N:=by exact rfl) (hop:oi.op=.call {callee:=.value (.func f),args:=as,argTypes:=ts}:=by exact rfl)
  (hargs:as.map a.eval=args:=by (try simp only[List.map_toArray,List.map_cons,List.map_nil]);first|done|rfl|(simp only[List.length_drop,List.length_take];rfl)):
  if Region.wanted oi (yielded ops a.tmps)=true then Oper.wp P oi a w K Q else K (a.put N undef) w:=goes_ hf hname hb args hw hN hop hargs h
end
section
variable {w : World} {g : Nat} {t : TypeId} {R : Prop}
theorem cK2 {v0 v1:Value}(h:w.heap[g]?=some (.cells #[v0,v1] t (0,0))):w.cell? ⟨g,0,none⟩=some v0∧w.cell? ⟨g,1,none⟩=some v1:=⟨(blk_cell h 0).trans rfl,(blk_cell h 1).trans rfl⟩
theorem cJ2 {v0 v1:Value}(h:w.heap[g]?=some (.cells #[v0,v1] t (0,0)))(r:R):w.cell? ⟨g,0,none⟩=some v0∧w.cell? ⟨g,1,none⟩=some v1∧R:=⟨(blk_cell h 0).trans rfl,(blk_cell h 1).trans rfl,r⟩
theorem cK4 {v0 v1 v2 v3:Value}(h:w.heap[g]?=some (.cells #[v0,v1,v2,v3] t (0,0))):w.cell? ⟨g,0,none⟩=some v0∧w.cell? ⟨g,1,none⟩=some v1∧w.cell? ⟨g,2,none⟩=some v2∧w.cell? ⟨g,3,none⟩=some v3:=⟨(blk_cell h 0).trans rfl,(blk_cell h 1).trans rfl,(blk_cell h 2).trans rfl,(blk_cell h 3).trans rfl⟩
theorem cJ4 {v0 v1 v2 v3:Value}(h:w.heap[g]?=some (.cells #[v0,v1,v2,v3] t (0,0)))(r:R):w.cell? ⟨g,0,none⟩=some v0∧w.cell? ⟨g,1,none⟩=some v1∧w.cell? ⟨g,2,none⟩=some v2∧w.cell? ⟨g,3,none⟩=some v3∧R:=⟨(blk_cell h 0).trans rfl,(blk_cell h 1).trans rfl,(blk_cell h 2).trans rfl,(blk_cell h 3).trans rfl,r⟩
theorem cK6 {v0 v1 v2 v3 v4 v5:Value}(h:w.heap[g]?=some (.cells #[v0,v1,v2,v3,v4,v5] t (0,0))):w.cell? ⟨g,0,none⟩=some v0∧w.cell? ⟨g,1,none⟩=some v1∧w.cell? ⟨g,2,none⟩=some v2∧w.cell? ⟨g,3,none⟩=some v3∧w.cell? ⟨g,4,none⟩=some v4∧w.cell? ⟨g,5,none⟩=some v5:=⟨(blk_cell h 0).trans rfl,(blk_cell h 1).trans rfl,(blk_cell h 2).trans rfl,(blk_cell h 3).trans rfl,(blk_cell h 4).trans rfl,(blk_cell h 5).trans rfl⟩
theorem cJ6 {v0 v1 v2 v3 v4 v5:Value}(h:w.heap[g]?=some (.cells #[v0,v1,v2,v3,v4,v5] t (0,0)))(r:R):w.cell? ⟨g,0,none⟩=some v0∧w.cell? ⟨g,1,none⟩=some v1∧w.cell? ⟨g,2,none⟩=some v2∧w.cell? ⟨g,3,none⟩=some v3∧w.cell? ⟨g,4,none⟩=some v4∧w.cell? ⟨g,5,none⟩=some v5∧R:=⟨(blk_cell h 0).trans rfl,(blk_cell h 1).trans rfl,(blk_cell h 2).trans rfl,(blk_cell h 3).trans rfl,(blk_cell h 4).trans rfl,(blk_cell h 5).trans rfl,r⟩
end
structure Hd (S : World → Prop) (w : World) : Prop where out : S w
section
variable {w : World} {g : Nat} {t : TypeId} {R : World → Prop}
theorem hK2 {v0 v1:Value}(h:w.heap[g]?=some (.cells #[v0,v1] t (0,0))):Hd (fun w'=>w'.cell? ⟨g,0,none⟩=some v0∧w'.cell? ⟨g,1,none⟩=some v1) w:=⟨cK2 h⟩
theorem hJ2 {v0 v1:Value}(h:w.heap[g]?=some (.cells #[v0,v1] t (0,0)))(r:Hd R w):Hd (fun w'=>w'.cell? ⟨g,0,none⟩=some v0∧w'.cell? ⟨g,1,none⟩=some v1∧R w') w:=⟨cJ2 h r.1⟩
theorem hK4 {v0 v1 v2 v3:Value}(h:w.heap[g]?=some (.cells #[v0,v1,v2,v3] t (0,0))):Hd (fun w'=>w'.cell? ⟨g,0,none⟩=some v0∧w'.cell? ⟨g,1,none⟩=some v1∧w'.cell? ⟨g,2,none⟩=some v2∧w'.cell? ⟨g,3,none⟩=some v3) w:=⟨cK4 h⟩
theorem hJ4 {v0 v1 v2 v3:Value}(h:w.heap[g]?=some (.cells #[v0,v1,v2,v3] t (0,0)))(r:Hd R w):Hd (fun w'=>w'.cell? ⟨g,0,none⟩=some v0∧w'.cell? ⟨g,1,none⟩=some v1∧w'.cell? ⟨g,2,none⟩=some v2∧w'.cell? ⟨g,3,none⟩=some v3∧R w') w:=⟨cJ4 h r.1⟩
theorem hK6 {v0 v1 v2 v3 v4 v5:Value}(h:w.heap[g]?=some (.cells #[v0,v1,v2,v3,v4,v5] t (0,0))):Hd (fun w'=>w'.cell? ⟨g,0,none⟩=some v0∧w'.cell? ⟨g,1,none⟩=some v1∧w'.cell? ⟨g,2,none⟩=some v2∧w'.cell? ⟨g,3,none⟩=some v3∧w'.cell? ⟨g,4,none⟩=some v4∧w'.cell? ⟨g,5,none⟩=some v5) w:=⟨cK6 h⟩
theorem hJ6 {v0 v1 v2 v3 v4 v5:Value}(h:w.heap[g]?=some (.cells #[v0,v1,v2,v3,v4,v5] t (0,0)))(r:Hd R w):Hd (fun w'=>w'.cell? ⟨g,0,none⟩=some v0∧w'.cell? ⟨g,1,none⟩=some v1∧w'.cell? ⟨g,2,none⟩=some v2∧w'.cell? ⟨g,3,none⟩=some v3∧w'.cell? ⟨g,4,none⟩=some v4∧w'.cell? ⟨g,5,none⟩=some v5∧R w') w:=⟨cJ6 h r.1⟩
theorem hX {a:Addr}{v:Value}(h:w.cell? a=some v)(r:Hd R w):Hd (fun w'=>w'.cell? a=some v∧R w') w:=⟨h,r.1⟩
theorem hE {a:Addr}{v:Value}(h:w.cell? a=some v):Hd (fun w'=>w'.cell? a=some v) w:=⟨h⟩
end
theorem st_ {P:Program}{ops:Array Oper}{Q:Exit→Act→World→Prop}{ds:List Nat}{S:World→Prop}{id n:Nat}{a:Act}{w:World}(l:Array Bool)(hS:Hd S w.drew)(hm:P.follows .mixedOrders=true)(hn:ops.size=n)(hl:Array.replicate n false=l)
  (h:S w.drew→wpAnyLast P .any ops Q S ds n l a w.drew):(Code.region id ops true).wp P Q a w:=start_ l hm hn hl hS.1 h
section
variable {g g1 g2 e base : Nat} {α : Type} {d : Kd α} {ok : Nat → Prop} {w w1 : World} {v : Value} {xs : List α}
theorem SK1 (h:d.S e w base (fun k=>ok k∧k≠g) v xs)(ho:Off1 g w w1:=by (with_reducible repeat (first|refine Off1.step ?_ _ _|refine Off1.drewN ?_ _|refine Off1.drew ?_));exact Off1.refl):d.S e w1 base (fun k=>ok k∧k≠g) v xs:=by
 induction ho with
 |refl=>exact h
 |step _ j u ih=>exact Kd.S_far (p:=⟨g,j,none⟩) ih (fun _ q=>q.2) u
 |drewN _ n ih=>exact Kd.S_drewN ih n
 |drew _ ih=>exact Kd.S_drew ih
theorem SK2 (h:d.S e w base (fun k=>(ok k∧k≠g1)∧k≠g2) v xs)(ho:Off2 g1 g2 w w1:=by (with_reducible repeat (first|refine Off2.two ?_ _ _|refine Off2.one ?_ _ _|refine Off2.drewN ?_ _|refine Off2.drew ?_));exact Off2.refl):d.S e w1 base (fun k=>(ok k∧k≠g1)∧k≠g2) v xs:=by
 induction ho with
 |refl=>exact h
 |one _ j u ih=>exact Kd.S_far (p:=⟨g1,j,none⟩) ih (fun _ q=>q.1.2) u
 |two _ j u ih=>exact Kd.S_far (p:=⟨g2,j,none⟩) ih (fun _ q=>q.2) u
 |drewN _ n ih=>exact Kd.S_drewN ih n
 |drew _ ih=>exact Kd.S_drew ih
end
theorem b_W {w w1 w2:World}{a:Addr}{v:Value}(hB:Aside0 (Below w.heap.size w w1))(h:w.cell? a=some v)(e:w2.cell? a=w1.cell? a:=by rfl):w2.cell? a=some v:=e.trans ((hB.out.cell (World.block_lt_of_cell? w _ h)).trans h)
theorem o_I {α:Type}{a b:α}(h:some a=some b):a=b:=Option.some.inj h
theorem b_F {b:Bool}(h:¬b=true):b=false:=Bool.eq_false_iff.mpr h
section
variable {w : World} {g : Nat} {t : TypeId}
end
section
variable {g e base : Nat} {α : Type} {d : Kd α} {ok : Nat → Prop} {w w1 : World} {v : Value} {xs : List α}
end
theorem g_D {P:Program}{ops:Array Oper}{Q:Exit→Act→World→Prop}{o:Oper}{rest:List Oper}{a:Act}{W:World}(N:Tmp)(h:wpList P ops Q (o :: rest) a W)(hN:o.dst=some N:=by with_reducible rfl):wpList P ops Q (o :: rest) a W:=h
theorem g_C {P:Program}{ops:Array Oper}{Q:Exit→Act→World→Prop}{o:Oper}{rest:List Oper}{a:Act}{W:World}(f:FuncId){xs:Array Operand}{ts:Array TypeId}(h:wpList P ops Q (o :: rest) a W)(ho:o.op=.call {callee:=.value (.func f),args:=xs,argTypes:=ts}:=by with_reducible rfl):wpList P ops Q (o :: rest) a W:=h
end Go.Proofs.YtjgmkkogmfogbaaGreat.Q
