/- What comes in as data is read by the kinds' words: a value that can be read at a type is what its kind tells. Plain lemmas for the rows of laws over structs and slices of structs; no condition. -/
import Derived.ProofKit
import Derived.WalkKit
import Derived.Deep.Slices
import Derived.Test.YtjgmkkogmfogbaaGreatWWords
namespace Go.Proofs.YtjgmkkogmfogbaaGreat.Opn
open Go.ChangeShapes Go.WideShapes Go.RowKit Go.Deep Go.Proofs.YtjgmkkogmfogbaaGreatW.PrintWords
set_option linter.unusedVariables false
/-- Whatever reads as data at type t, the kind d tells, with what G says of it. -/
def Opens {α:Type}(P:Program)(W:World)(d:Kd α)(t:TypeId)(G:α→Prop):Prop:=
  ∀(H:Type) (enc:TypeId×Value→H) (n:Nat) (cs:List Value) (x:DataW H×List MemPlace),DataW.trod enc P W 0 (fun _=>true) true n t cs=some x→∃a,d.K W a cs∧G a
/-- The same of fields in line, from cell o on. -/
def OpensAt {α:Type}(P:Program)(W:World)(d:Kd α)(o:Nat)(fs:List (TypeId×Nat))(G:α→Prop):Prop:=
  ∀(H:Type) (enc:TypeId×Value→H) (n:Nat) (cs:List Value),(∀f,f ∈ fs→∃y,DataW.trod enc P W 0 (fun _=>true) true n f.1 ((cs.drop f.2).take (P.cellsOf f.1))=some y)→∃a,d.K W a ((cs.drop o).take d.sz)∧G a
section
variable {P : Program} {W : World} {α β : Type}
theorem opens_int {t:TypeId}{k:IntKind}(ht:P.underlying t=some (.int k)):Opens P W (Kd.int k) t (fun n=>(Lit.int k n).wf=true):=by
  intro H enc n cs x h
  obtain⟨a,rfl,_,hw⟩:=DataW.trod_int ht h
  exact⟨a,rfl,hw⟩
theorem opens_bool {t:TypeId}(ht:P.underlying t=some .bool):Opens P W Kd.bool t (fun _=>True):=by
  intro H enc n cs x h
  obtain⟨b,rfl,_⟩:=DataW.trod_bool ht h
  exact⟨b,rfl,trivial⟩
/-- What is told of a slice: its length fits an int, and each element is good. -/
def Each (G:α→Prop)(xs:List α):Prop:=xs.length≤9223372036854775807∧∀x,x ∈ xs→G x
theorem opens_slice {t e:TypeId}{E:Nat}{d:Kd α}{G:α→Prop}(ht:P.underlying t=some (.slice e))(hsz:P.cellsOf e=d.sz)(he:Opens P W d e G):Opens P W (Kd.slice E d) t (Each G):=by
  intro H enc n cs x h
  rcases open_slice ht h with ⟨rfl,_⟩|⟨a,len,cap,m,n',D,Pl,rfl,hb,hl,hm,hmm,rfl,hx⟩
  · exact⟨[],⟨none,0,rfl,Nat.le_refl _,⟨rfl,by simp,fun h0=>absurd h0 (by simp)⟩⟩,by simp,by simp⟩
  · have hlm:len≤m:=by rw[hmm];simp;omega
    have hall:∀i:Fin len,∃y:α×List Value,d.K W y.1 y.2∧G y.1∧y.2.length=d.sz∧∀j u,y.2[j]?=some u→W.cell? (a.add (i.val * d.sz+j))=some u:=by
      intro i
      obtain⟨cs',h1,h2⟩:=hx i.val (by omega)
      obtain⟨y,hK,hG⟩:=he H enc n' cs' _ h2
      obtain⟨_,hlen,hc⟩:=World.cells?_some h1
      rw[hsz] at hlen hc
      refine⟨(y,cs'),hK,hG,hlen,fun j u hu=>?_⟩
      have hj:j<d.sz:=by
        rcases Nat.lt_or_ge j d.sz with h3|h3
        · exact h3
        · have hu':cs'[j]?=some u:=hu
          rw[List.getElem?_eq_none (by omega)] at hu';cases hu'
      rw[← Go.Deep.add_add,hc j hj]
      exact hu
    let f:Fin len→α:=fun i=>(Classical.choose (hall i)).1
    have hlen:(List.ofFn f).length=len:=by simp
    have hm':len≤9223372036854775807:=by have:cap≤9223372036854775807:=hm;omega
    refine⟨List.ofFn f,⟨some a,cap,by rw[hlen],by rw[hlen];exact hl,⟨rfl,by rw[hlen];exact hm',fun _=>⟨a,rfl,fun j p hj=>?_⟩⟩⟩,by rw[hlen];exact hm',fun x hx=>?_⟩
    · obtain⟨hj',hp⟩:=List.getElem?_eq_some_iff.1 hj
      have hjl:j<len:=by rw[hlen] at hj';exact hj'
      have hp':p=(Classical.choose (hall ⟨j,hjl⟩)).1:=by rw[← hp];simp [f]
      have hs:=Classical.choose_spec (hall ⟨j,hjl⟩)
      refine⟨(Classical.choose (hall ⟨j,hjl⟩)).2,hs.2.2.1,?_,hs.2.2.2⟩
      rw[hp']
      exact hs.1
    · obtain⟨i,rfl⟩:=List.mem_ofFn.1 hx
      exact(Classical.choose_spec (hall i)).2.1
theorem opensAt_one {t:TypeId}{o:Nat}{d:Kd α}{G:α→Prop}(hsz:P.cellsOf t=d.sz)(h:Opens P W d t G):OpensAt P W d o [(t,o)] G:=by
  intro H enc n cs hf
  obtain⟨y,hy⟩:=hf (t,o) (by simp)
  rw[hsz] at hy
  exact h H enc n _ y hy
theorem opensAt_cons {t:TypeId}{o:Nat}{d:Kd α}{d':Kd β}{G:α→Prop}{G':β→Prop}{fs:List (TypeId×Nat)}(hsz:P.cellsOf t=d.sz)(h:Opens P W d t G)(h':OpensAt P W d' (o+d.sz) fs G'):
    OpensAt P W (Kd.pair d d') o ((t,o) :: fs) (fun x=>G x.1∧G' x.2):=by
  intro H enc n cs hf
  obtain⟨y,hy⟩:=hf (t,o) (by simp)
  rw[hsz] at hy
  obtain⟨a,hK,hG⟩:=h H enc n _ y hy
  obtain⟨b,hK',hG'⟩:=h' H enc n cs (fun f hm=>hf f (List.mem_cons_of_mem _ hm))
  refine⟨(a,b),⟨_,_,?_,hK,hK'⟩,hG,hG'⟩
  show List.take (d.sz+d'.sz) (List.drop o cs)=_
  rw[List.take_add,List.drop_drop]
theorem opens_struct {t:TypeId}{fs:Array Field}{d:Kd α}{f:β→α}{G:α→Prop}(ht:P.underlying t=some (.struct fs))(hsz:P.cellsOf t=d.sz)(hf:∀y,∃x,f x=y)
    (h:OpensAt P W d 0 (fs.toList.map fun z=>(z.type,z.offset)) G):Opens P W (Kd.iso d f) t (fun x=>G (f x)):=by
  intro H enc n cs x hx
  obtain⟨xs,n',rfl,_,hl,hlx,hat⟩:=DataW.trod_struct ht hx
  obtain⟨a,hK,hG⟩:=h H enc n' cs (fun z hz=>by
    obtain⟨y,hy,rfl⟩:=List.mem_map.1 hz
    obtain⟨i,hi,e⟩:=List.getElem_of_mem hy
    have hi':i<fs.size:=by simpa using hi
    have:=hat i y (by rw[Array.getElem?_eq_getElem hi'];simpa using e)
    rw[List.getElem?_eq_getElem (by omega)] at this
    exact⟨_,this⟩)
  obtain⟨b,rfl⟩:=hf a
  refine⟨b,?_,hG⟩
  have e:List.take d.sz (List.drop 0 cs)=cs:=by rw[List.drop_zero,List.take_of_length_le (by omega)]
  rw[e] at hK
  exact hK
/-- A struct that comes in is the aggregate of its cells. -/
theorem okWide_agg {w:World}{r:Reach}{base:Nat}{t:TypeId}{fs:Array Field}{v:Value}(ht:P.underlying t=some (.struct fs))(h:Value.okWide P w r base t v):∃cs,v=.agg cs:=by
  unfold Value.okWide at h
  rw[ht] at h
  obtain⟨cs,rfl,_⟩:=h
  exact⟨cs,rfl⟩
theorem arr_of_list {cs:Array Value}{l:List Value}(h:(Value.agg cs).cells.toList=l):cs=l.toArray:=by
  have h':cs.toList=l:=h
  rw[← h']
/-- A slice that comes in, told by its kind. -/
theorem slice_of_K {E:Nat}{d:Kd α}{xs:List α}{v:Value}(h:(Kd.slice E d).K W xs [v]):∃A c,v=.slice A xs.length c∧xs.length≤c∧d.C W A xs.length xs:=by
  obtain⟨A,c,e,hl,hC⟩:=h
  simp only[List.cons.injEq,and_true] at e
  exact⟨A,c,e,hl,hC⟩
end
end Go.Proofs.YtjgmkkogmfogbaaGreat.Opn
