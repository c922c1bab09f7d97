/- The program's CommitAll returns what the reference's returns, for every disk, manifest and build, in memory of its own, and leaves them. No further condition. -/
import Derived.Test.YtjgmkkogmfogbaaGreatQ48
import Derived.Test.YtjgmkkogmfogbaaGreatQ25
import Derived.Test.YtjgmkkogmfogbaaGreatQ20
import Derived.Test.YtjgmkkogmfogbaaGreatQ39
import Derived.Test.YtjgmkkogmfogbaaGreatQ17
import Derived.Test.YtjgmkkogmfogbaaGreatQ36
import Derived.Test.YtjgmkkogmfogbaaGreatQ14
import Derived.Test.YtjgmkkogmfogbaaGreatQ34
import Derived.Test.YtjgmkkogmfogbaaGreatQ29
import Derived.Test.YtjgmkkogmfogbaaGreatQ1
import Derived.Test.YtjgmkkogmfogbaaGreatQ42
import Derived.Test.YtjgmkkogmfogbaaGreatQ5
import Derived.Test.YtjgmkkogmfogbaaGreatQ21
import Derived.RowKit
import Derived.IntWalk
import Derived.Test.YtjgmkkogmfogbaaGreatWWords
import Derived.Test.YtjgmkkogmfogbaaGreatTyp
import Derived.Laws.BitsLemmas
/- Plain lemmas on answers with rounds: a loop that goes up through numbers comes to what its steps make. No condition. -/
namespace Go.Proofs.YtjgmkkogmfogbaaGreat.Pb
open Go.RowKit Go.Proofs.YtjgmkkogmfogbaaGreatW.PrintWords
set_option linter.unusedVariables false
theorem w64 {x:Int}(h0: -9223372036854775808≤x)(h1:x≤9223372036854775807):wrap64 x=x:=by unfold wrap64;omega
section
variable {α β ρ σ : Type}
theorem ev_pos {c:Prop}[Decidable c]{f g:Nat→Option α}{r:α}(hc:c)(h:Ev f r):Ev (fun k=>if c then f k else g k) r:=Ev.congr (fun k=>if_pos hc) h
theorem ev_neg {c:Prop}[Decidable c]{f g:Nat→Option α}{r:α}(hc:¬c)(h:Ev g r):Ev (fun k=>if c then f k else g k) r:=Ev.congr (fun k=>if_neg hc) h
theorem ev_true {f g:Nat→Option α}{r:α}(h:Ev f r):Ev (fun k=>if true=true then f k else g k) r:=ev_pos rfl h
theorem ev_false {f g:Nat→Option α}{r:α}(h:Ev g r):Ev (fun k=>if false=true then f k else g k) r:=ev_neg (by decide) h
theorem ev_some {r:α}:Ev (fun _=>some r) r:=Ev.now r
theorem ev_of {a:Option α}{r:α}(h:a=some r):Ev (fun _=>a) r:=⟨0,fun _ _=>h⟩
theorem ev_then {a:Option α}{x:α}{f:Nat→α→Option β}{r:β}(h:a=some x)(k:Ev (fun n=>f n x) r):Ev (fun n=>a.bind (f n)) r:=Ev.bind (ev_of h) k
theorem ev_if {c:Prop}[Decidable c]{f g:Nat→Option α}{r:α}(h1:c→Ev f r)(h2:¬c→Ev g r):Ev (fun k=>if c then f k else g k) r:=by
 by_cases h:c
 ·exact ev_pos h (h1 h)
 ·exact ev_neg h (h2 h)
theorem ev_eq {f:Nat→Option α}{r r':α}(h:Ev f r)(e:r=r'):Ev f r':=e ▸ h
def iter (n:Nat)(next:Nat→σ→σ)(s:σ):σ:=(List.range n).foldl (fun s i=>next i s) s
theorem iter_zero (next:Nat→σ→σ)(s:σ):iter 0 next s=s:=rfl
theorem iter_succ (n:Nat)(next:Nat→σ→σ)(s:σ):iter (n+1) next s=next n (iter n next s):=by
 unfold iter
 rw[List.range_succ,List.foldl_append]
 rfl
theorem loop_up (g:Nat→σ→Int→Option ρ)(n:Nat)(next:Nat→σ→σ)(Inv:Nat→σ→Prop)(s0:σ)(r:ρ)
  (h0:Inv 0 s0) (hinv:∀i s,i<n→Inv i s→Inv (i+1) (next i s))
  (hstep:∀(i:Nat) s r,i<n→Inv i s→Ev (fun k=>g k (next i s) ((i:Int)+1)) r→Ev (fun k=>g k s (i:Int)) r)
  (hend:Inv n (iter n next s0)→Ev (fun k=>g k (iter n next s0) (n:Int)) r):Ev (fun k=>g k s0 0) r:=by
 have hall:∀i,i≤n→Inv i (iter i next s0):=by
  intro i
  induction i with
  |zero=>intro _;exact h0
  |succ i ih=>intro hi;rw[iter_succ];exact hinv i _ (by omega) (ih (by omega))
 have key:∀d i,i+d=n→Ev (fun k=>g k (iter i next s0) (i:Int)) r:=by
  intro d
  induction d with
  |zero=>
   intro i hi
   obtain rfl:i=n:=by omega
   exact hend (hall i (Nat.le_refl _))
  |succ d ih=>
   intro i hi
   refine hstep i _ r (by omega) (hall i (by omega)) ?_
   have:=ih (i+1) (by omega)
   rw[iter_succ] at this
   simpa using this
 exact key n 0 (by omega)
theorem loop_find (g:Nat→Int→Option ρ)(n:Nat)(p:Nat→Bool)(res:Nat→ρ)(r0:ρ)
  (hyes:∀i,i<n→p i=true→Ev (fun k=>g k (i:Int)) (res i))
  (hno:∀i r,i<n→p i=false→Ev (fun k=>g k ((i:Int)+1)) r→Ev (fun k=>g k (i:Int)) r)
  (hend:Ev (fun k=>g k (n:Int)) r0):Ev (fun k=>g k 0) (match (List.range n).find? p with|some i=>res i|none=>r0):=by
 have key:∀d i,i+d=n→Ev (fun k=>g k (i:Int)) (match (List.range' i d).find? p with|some i=>res i|none=>r0):=by
  intro d
  induction d with
  |zero=>
   intro i hi
   obtain rfl:i=n:=by omega
   exact hend
  |succ d ih=>
   intro i hi
   rw[List.range'_succ,List.find?_cons]
   cases hp:p i with
   |true=>exact hyes i (by omega) hp
   |false=>exact hno i _ (by omega) hp (by have:=ih (i+1) (by omega);simpa using this)
 have:=key n 0 (by omega)
 rwa [← List.range_eq_range'] at this
theorem loop_all (g:Nat→Int→Option Bool)(n:Nat)(p:Nat→Bool)
  (hyes:∀i r,i<n→p i=true→Ev (fun k=>g k ((i:Int)+1)) r→Ev (fun k=>g k (i:Int)) r)
  (hno:∀i,i<n→p i=false→Ev (fun k=>g k (i:Int)) false)
  (hend:Ev (fun k=>g k (n:Int)) true):Ev (fun k=>g k 0) ((List.range n).all p):=by
 have h:=loop_find g n (fun i=>!p i) (fun _=>false) true (fun i hi hp=>hno i hi (by simpa using hp)) (fun i r hi hp h=>hyes i r hi (by simpa using hp) h) hend
 refine ev_eq h ?_
 cases hf:(List.range n).find? (fun i=>!p i) with
 |some i=>
  have h1:=List.find?_some hf
  have h2:=List.mem_of_find?_eq_some hf
  symm
  rw[List.all_eq_false]
  exact⟨i,h2,by simpa using h1⟩
 |none=>
  symm
  rw[List.all_eq_true]
  intro x hx
  have:=List.find?_eq_none.1 hf x hx
  simpa using this
end
theorem iter_set {α:Type}(n:Nat)(f:Nat→α)(l:List α)(hl:l.length=n):iter n (fun i (s:List α)=>s.set i (f i)) l=(List.range n).map f:=by
 have key:∀m,m≤n→iter m (fun i (s:List α)=>s.set i (f i)) l=(List.range m).map f++l.drop m:=by
  intro m
  induction m with
  |zero=>intro _;simp [iter_zero]
  | succ m ih=>
   intro hm
   rw[iter_succ,ih (by omega)]
   apply List.ext_getElem?
   intro j
   simp only[List.getElem?_set,List.getElem?_append,List.length_map,List.length_range,List.length_append,List.length_drop,List.getElem?_map,List.getElem?_drop]
   by_cases h1:m=j
   ·subst h1
    simp
    omega
   ·by_cases h2:j<m
    ·simp [h1,h2,show j<m+1 by omega]
    ·have h3:¬j<m+1:=by omega
     simp [h1,h2,h3]
     congr 1
     omega
 have:=key n (Nat.le_refl _)
 rw[this,List.drop_of_length_le (by omega),List.append_nil]
theorem map_range_get {α β:Type}(l:List α)(d:α)(f:α→β):(List.range l.length).map (fun i=>f (l.getD i d))=l.map f:=by
 apply List.ext_getElem?
 intro i
 by_cases h:i<l.length
 ·simp [h,List.getD_eq_getElem?_getD]
 ·simp [h]
theorem all_range_eq {α:Type}[DecidableEq α](a b:List α)(d:α)(hl:a.length=b.length):(List.range a.length).all (fun i=>decide (a.getD i d=b.getD i d))=decide (a=b):=by
 rw[Bool.eq_iff_iff]
 simp only[List.all_eq_true,List.mem_range,decide_eq_true_eq]
 constructor
 ·intro h
  apply List.ext_getElem hl
  intro i h1 h2
  have:=h i h1
  simpa [List.getD_eq_getElem?_getD,h1,h2] using this
 ·rintro rfl i _
  rfl
open Go.Proofs.YtjgmkkogmfogbaaGreat Go.Proofs.YtjgmkkogmfogbaaGreat.Q Go.Proofs.YtjgmkkogmfogbaaGreatW.PrintLast
set_option linter.unusedSimpArgs false
theorem toByteS_ev (l:List Int)(hl:l.length≤1048576):Ev (fun k=>laws_toByteS.f k l) l:=by
 unfold laws_toByteS.f
 refine ev_pos (by omega) (ev_pos (by simp;omega) ?_)
 refine loop_up (fun k s i=>laws_toByteS.l0 k l s i) l.length (fun i (s:List Int)=>s.set i (l.getD i 0)) (fun _ s=>s.length=l.length) _ l (by simp) (fun i s _ h=>by simpa using h) ?_ ?_
 ·intro i s r hi hs h
  refine Ev.step (fun k=>rfl) ?_
  refine ev_pos (by omega) (ev_pos (by omega) (ev_pos (by omega) ?_))
  rw[w64 (by omega) (by omega)]
  simpa [rd] using h
 ·intro hs
  refine Ev.step (fun k=>rfl) ?_
  refine ev_neg (by omega) (ev_eq ev_some ?_)
  have h1:=iter_set l.length (fun i=>l.getD i 0) (List.replicate (l.length:Int).toNat 0) (by simp)
  rw[h1]
  have h2:=map_range_get l 0 id
  simpa using h2
theorem eqByteS_ev (a b:List Int)(ha:a.length≤9223372036854775806):Ev (fun k=>laws_eqByteS.f k a b) (decide (a=b)):=by
 unfold laws_eqByteS.f
 refine ev_if (fun hl=>?_) (fun hl=>ev_eq ev_some ?_)
 ·have hl':a.length=b.length:=by omega
  rw[← all_range_eq a b 0 hl']
  refine loop_all (fun k i=>laws_eqByteS.l0 k a b i) a.length _ ?_ ?_ ?_
  ·intro i r hi hp h
   refine Ev.step (fun k=>rfl) ?_
   refine ev_pos (by omega) (ev_pos (by omega) (ev_pos (by omega) (ev_pos (by simpa [rd] using hp) ?_)))
   rw[w64 (by omega) (by omega)]
   exact h
  ·intro i hi hp
   refine Ev.step (fun k=>rfl) ?_
   exact ev_pos (by omega) (ev_pos (by omega) (ev_pos (by omega) (ev_neg (by simpa [rd] using hp) ev_some)))
  ·refine Ev.step (fun k=>rfl) ?_
   exact ev_neg (by omega) ev_some
 ·symm
  rw[decide_eq_false_iff_not]
  rintro rfl
  exact hl rfl
def recOf_ (x:S24):S36:=⟨x.f0,x.f1,x.f2⟩
def putOf_ (x:S79):S91:=⟨x.f0,x.f1,x.f2,recOf_ x.f3⟩
theorem szByteS_eq (l:List Int)(x:Int)(hl:l.length≤9223372036854775807)(h0:0≤x)(h1:x≤1048576):laws_szByteS.f l x=some (if x<(l.length:Int) then (-1:Int) else x - l.length):=by
 unfold laws_szByteS.f
 rw[w64 (by omega) (by omega)]
 by_cases r:x<(l.length:Int)
 ·rw[if_pos (by omega),if_pos r]
 ·rw[if_neg (by omega),if_neg r]
def PutsFit (l:List S79):Prop:=l.length≤1048576∧∀p ∈ l,p.f2.length≤1048576
theorem szPutS_ev (l:List S79)(x:Int)(hl:l.length≤9223372036854775807)(hb:∀p ∈ l,p.f2.length≤9223372036854775807)(h0:0≤x)(h1:x≤1048576):
  ∃r,Ev (fun k=>laws_szPutS.f k l x) r∧r≤x∧(0≤r→PutsFit l):=by
 unfold laws_szPutS.f
 rw[w64 (by omega) (by omega)]
 by_cases q:x - l.length<0
 ·exact⟨-1,ev_pos q ev_some,by omega,by omega⟩
 have key:∀(d i:Nat) (y:Int),i+d=l.length→0≤y→y≤x→(∀j,j<i→(l.getD j z79).f2.length≤1048576)→
   ∃r,Ev (fun k=>laws_szPutS.l0 k l y (i:Int)) r∧r≤x∧(0≤r→∀j,j<l.length→(l.getD j z79).f2.length≤1048576):=by
  intro d
  induction d with
  |zero=>
   intro i y hi hy hx hj
   refine⟨y,Ev.step (fun k=>rfl) (ev_neg (by omega) ev_some),hx,fun _ j hj'=>hj j (by omega)⟩
  | succ d ih=>
   intro i y hi hy hx hj
   have hm:(l.getD i z79) ∈ l:=by
    rw[List.getD_eq_getElem?_getD,List.getElem?_eq_getElem (by omega)]
    exact List.getElem_mem _
   have e:laws_szPut.f (l.getD i z79).f0 (l.getD i z79).f1 (l.getD i z79).f2 (l.getD i z79).f3.f0 (l.getD i z79).f3.f1 (l.getD i z79).f3.f2 y=some (if y<((l.getD i z79).f2.length:Int) then (-1:Int) else y - (l.getD i z79).f2.length):=by
    unfold laws_szPut.f
    rw[szByteS_eq _ _ (hb _ hm) hy (by omega)]
    simp only[Option.bind_some]
    by_cases r:y<((l.getD i z79).f2.length:Int)
    ·rw[if_pos r];rfl
    ·rw[if_neg r,if_neg (by omega)]
   by_cases r:y<((l.getD i z79).f2.length:Int)
   ·refine⟨-1,Ev.step (fun k=>rfl) (ev_pos (by omega) (ev_pos (by omega) ?_)),by omega,by omega⟩
    simp only[rd_T79,Int.toNat_natCast]
    refine ev_then e ?_
    rw[if_pos r]
    exact ev_pos (by omega) ev_some
   ·obtain⟨s,h2,h3,h4⟩:=ih (i+1) (y - (l.getD i z79).f2.length) (by omega) (by omega) (by omega) (fun j hj'=>by
     by_cases z:j=i
     ·subst z;omega
     ·exact hj j (by omega))
    refine⟨s,Ev.step (fun k=>rfl) (ev_pos (by omega) (ev_pos (by omega) ?_)),h3,h4⟩
    simp only[rd_T79,Int.toNat_natCast]
    refine ev_then e ?_
    rw[if_neg r]
    refine ev_neg (by omega) ?_
    rw[w64 (x:=(i:Int)+1) (by omega) (by omega)]
    simpa using h2
 obtain⟨r,h2,h3,h4⟩:=key l.length 0 (x - l.length) (by omega) (by omega) (by omega) (fun j hj=>by omega)
 refine⟨r,ev_neg q h2,h3,fun h=>⟨by omega,fun p hp=>?_⟩⟩
 obtain⟨j,hj,rfl⟩:=List.getElem_of_mem hp
 have:=h4 h j hj
 rwa [List.getD_eq_getElem?_getD,List.getElem?_eq_getElem hj] at this
def DiskFit (a b:List Int)(l:List S79):Prop:=a.length≤1048576∧b.length≤1048576∧PutsFit l
theorem szDisk_ev (a b:List Int)(c d e:Int)(l:List S79)(x:Int)(ha:a.length≤9223372036854775807)(hb:b.length≤9223372036854775807)(hl:l.length≤9223372036854775807)(hp:∀p ∈ l,p.f2.length≤9223372036854775807)(h0:0≤x)(h1:x≤1048576):
  ∃r,Ev (fun k=>laws_szDisk.f k a b c d e l x) r∧r≤x∧(0≤r→DiskFit a b l):=by
 unfold laws_szDisk.f
 rw[szByteS_eq a x ha h0 h1]
 by_cases q:x<(a.length:Int)
 ·rw[if_pos q]
  exact⟨-1,ev_then rfl (ev_pos (by omega) ev_some),by omega,by omega⟩
 rw[if_neg q]
 by_cases r:x - a.length<(b.length:Int)
 ·refine⟨-1,ev_then rfl (ev_neg (by omega) ?_),by omega,by omega⟩
  rw[szByteS_eq b _ hb (by omega) (by omega),if_pos r]
  exact ev_then rfl (ev_pos (by omega) ev_some)
 obtain⟨s,h2,h3,h4⟩:=szPutS_ev l (x - a.length - b.length) hl hp (by omega) (by omega)
 by_cases t:s<0
 ·refine⟨-1,ev_then rfl (ev_neg (by omega) ?_),by omega,by omega⟩
  rw[szByteS_eq b _ hb (by omega) (by omega),if_neg r]
  exact ev_then rfl (ev_neg (by omega) (Ev.bind h2 (ev_pos t ev_some)))
 ·refine⟨s,ev_then rfl (ev_neg (by omega) ?_),by omega,fun h=>⟨by omega,by omega,h4 h⟩⟩
  rw[szByteS_eq b _ hb (by omega) (by omega),if_neg r]
  exact ev_then rfl (ev_neg (by omega) (Ev.bind h2 (ev_neg t ev_some)))
theorem goodPuts_len (x:S27)(g:good27 x):x.f0.length≤9223372036854775807∧x.f1.length≤9223372036854775807∧x.f3.length≤9223372036854775807∧∀p ∈ x.f3,p.f2.length≤9223372036854775807:=
 ⟨g.1.1,g.2.1.1,g.2.2.2.1,fun p hp=>(g.2.2.2.2 p hp).2.2.1.1⟩
theorem toPut_ev (p:S79)(h:p.f2.length≤1048576):Ev (fun k=>laws_toPut.f k p.f0 p.f1 p.f2 p.f3.f0 p.f3.f1 p.f3.f2) (p.f0,p.f1,p.f2,p.f3.f0,p.f3.f1,p.f3.f2):=by
 unfold laws_toPut.f
 exact Ev.bind (toByteS_ev _ h) (ev_then rfl ev_some)
theorem toPutS_ev (l:List S79)(h:PutsFit l):Ev (fun k=>laws_toPutS.f k l) (l.map putOf_):=by
 obtain⟨hl,hp⟩:=h
 unfold laws_toPutS.f
 refine ev_pos (by omega) (ev_pos (by simp;omega) ?_)
 refine loop_up (fun k s i=>laws_toPutS.l0 k l s i) l.length (fun i (s:List S91)=>s.set i (putOf_ (l.getD i z79))) (fun _ s=>s.length=l.length) _ _ (by simp) (fun i s _ h=>by simpa using h) ?_ ?_
 ·intro i s r hi hs h
  refine Ev.step (fun k=>rfl) ?_
  refine ev_pos (by omega) (ev_pos (by omega) ?_)
  simp only[rd_T79,Int.toNat_natCast]
  have hm:(l.getD i z79) ∈ l:=by
   rw[List.getD_eq_getElem?_getD,List.getElem?_eq_getElem (by omega)]
   exact List.getElem_mem _
  refine Ev.bind (toPut_ev _ (hp _ hm)) ?_
  refine ev_pos (by omega) ?_
  rw[w64 (by omega) (by omega)]
  exact h
 ·intro hs
  refine Ev.step (fun k=>rfl) ?_
  refine ev_neg (by omega) (ev_eq ev_some ?_)
  rw[iter_set l.length (fun i=>putOf_ (l.getD i z79)) _ (by simp)]
  exact map_range_get l _ putOf_
theorem toDisk_ev (a b:List Int)(c d e:Int)(l:List S79)(h:DiskFit a b l):Ev (fun k=>laws_toDisk.f k a b c d e l) (a,b,c,d,e,l.map putOf_):=by
 unfold laws_toDisk.f
 exact Ev.bind (toByteS_ev a h.1) (Ev.bind (toByteS_ev b h.2.1) (ev_then rfl (Ev.bind (toPutS_ev l h.2.2) ev_some)))
def PutsOk (n:Nat)(l:List S91):Prop:=l.length≤n∧∀p ∈ l,p.f2.length≤n
theorem putsOk_map {l:List S79}(h:PutsFit l):PutsOk 1048576 (l.map putOf_):=by
 refine⟨by simpa using h.1,fun p hp=>?_⟩
 obtain⟨q,hq,rfl⟩:=List.mem_map.1 hp
 exact h.2 q hq
theorem getD_mem {α:Type}{l:List α}{i:Nat}(d:α)(h:i<l.length):l.getD i d ∈ l:=by
 rw[List.getD_eq_getElem?_getD,List.getElem?_eq_getElem h]
 exact List.getElem_mem _
theorem eqRecord_refl (a b c:Int):laws_eqRecord.f a b c a b c=some true:=by
 unfold laws_eqRecord.f
 rw[if_pos rfl,if_pos rfl,if_pos rfl]
theorem eqPut_refl (p:S91)(h:p.f2.length≤9223372036854775806):Ev (fun k=>laws_eqPut.f k p.f0 p.f1 p.f2 p.f3.f0 p.f3.f1 p.f3.f2 p.f0 p.f1 p.f2 p.f3.f0 p.f3.f1 p.f3.f2) true:=by
 unfold laws_eqPut.f
 exact ev_pos rfl (ev_pos rfl (Ev.bind (eqByteS_ev _ _ h) (ev_pos (by simp) (ev_then (eqRecord_refl _ _ _) (ev_true ev_some)))))
theorem eqPutS_refl (l:List S91)(h:PutsOk 9223372036854775806 l):Ev (fun k=>laws_eqPutS.f k l l) true:=by
 obtain⟨hl,hp⟩:=h
 unfold laws_eqPutS.f
 refine ev_pos rfl ?_
 refine ev_eq (loop_all (fun k i=>laws_eqPutS.l0 k l l i) l.length (fun _=>true) ?_ ?_ ?_) (by simp)
 ·intro i r hi _ h
  refine Ev.step (fun k=>rfl) ?_
  refine ev_pos (by omega) (ev_pos (by omega) (ev_pos (by omega) ?_))
  simp only[rd_T91,Int.toNat_natCast]
  refine Ev.bind (eqPut_refl _ (hp _ (getD_mem _ hi))) (ev_true ?_)
  rw[w64 (by omega) (by omega)]
  exact h
 ·intro i hi hp
  cases hp
 ·refine Ev.step (fun k=>rfl) ?_
  exact ev_neg (by omega) ev_some
theorem putsOk_le {m n:Nat}(h:m≤n){l:List S91}(g:PutsOk m l):PutsOk n l:=⟨by have:=g.1;omega,fun p hp=>by have:=g.2 p hp;omega⟩
theorem eqDisk_refl (a b:List Int)(c d e:Int)(l:List S91)(ha:a.length≤9223372036854775806)(hb:b.length≤9223372036854775806)(hl:PutsOk 9223372036854775806 l):Ev (fun k=>laws_eqDisk.f k a b c d e l a b c d e l) true:=by
 unfold laws_eqDisk.f
 refine Ev.bind (eqByteS_ev a a ha) (ev_pos (by simp) (Ev.bind (eqByteS_ev b b hb) (ev_pos (by simp) ?_)))
 exact ev_then (eqRecord_refl _ _ _) (ev_true (Ev.bind (eqPutS_refl l hl) (ev_true ev_some)))
theorem rd_midp (pre:List S91)(p:S91)(t:List S91):rd_T91 (pre++p :: t) (pre.length:Int)=p:=by
 simp only[rd_T91,Int.toNat_natCast,List.getD_eq_getElem?_getD]
 rw[List.getElem?_append_right (Nat.le_refl _),Nat.sub_self]
 rfl
theorem specCopyPut_eq (a b:Int)(l:List Int)(c d e:Int)(h:l.length≤4194304):spec_l9CopyPut.f a b l c d e=some (a,b,l,c,d,e):=by
 unfold spec_l9CopyPut.f
 simp only[Option.bind_some]
 rw[if_pos (by simp only[List.length_nil];omega),List.nil_append]
theorem implCopyPut_eq (a b:Int)(l:List Int)(c d e:Int)(h:l.length≤4194304):impl_copyPut.f a b l c d e=some (a,b,l,c,d,e):=by
 unfold impl_copyPut.f impl_cloned.f
 rw[if_pos (by omega)]
 rfl
theorem specCopy_key (a b:List Int)(c d e:Int)(u v:List Int):∀(t pre:List S91),(∀p ∈ t,p.f2.length≤4194304)→pre.length+t.length≤4194304→
  Ev (fun k=>spec_l9Copy.l0 k (pre.length:Int) a b c d e (pre++t) u v c d e pre) (u,v,c,d,e,pre++t):=by
 intro t
 induction t with
 |nil=>
  intro pre _ _
  exact Ev.step (fun k=>rfl) (ev_neg (by simp) (ev_eq ev_some (by simp)))
 |cons p t ih=>
  intro pre hp hl
  simp only[List.length_cons] at hl
  refine Ev.step (fun k=>rfl) (ev_pos (by simp only[List.length_append,List.length_cons];omega) (ev_pos (by omega) ?_))
  simp only[rd_midp]
  refine ev_then (specCopyPut_eq _ _ _ _ _ _ (hp p (List.mem_cons_self ..))) (ev_pos (by omega) ?_)
  rw[w64 (x:=(pre.length:Int)+1) (by omega) (by omega)]
  have:=ih (pre++[p]) (fun q hq=>hp q (List.mem_cons_of_mem _ hq)) (by simp only[List.length_append,List.length_cons,List.length_nil];omega)
  simp only[List.append_assoc,List.singleton_append,List.length_append,List.length_cons,List.length_nil] at this
  exact this
theorem specCopy_ev (a b:List Int)(c d e:Int)(l:List S91)(ha:a.length≤4194304)(hb:b.length≤4194304)(hl:PutsOk 4194304 l):Ev (fun k=>spec_l9Copy.f k a b c d e l) (a,b,c,d,e,l):=by
 unfold spec_l9Copy.f
 refine ev_then rfl (ev_pos (by simp only[List.length_nil];omega) (ev_then rfl (ev_pos (by simp only[List.length_nil];omega) ?_)))
 exact specCopy_key a b c d e a b l [] hl.2 (by simpa using hl.1)
theorem implCopy_key (c d e:Int)(u v:List Int)(n:Int):∀(t pre:List S91),(∀p ∈ t,p.f2.length≤4194304)→pre.length+t.length≤4194304→n=(pre.length:Int)+t.length→
  Ev (fun k=>impl_copyDisk.l0 k (pre++t) n (pre.length:Int) u v c d e pre) (u,v,c,d,e,pre++t):=by
 intro t
 induction t with
 |nil=>
  intro pre _ _ hn
  exact Ev.step (fun k=>rfl) (ev_neg (by simp only[List.length_nil] at hn;omega) (ev_eq ev_some (by simp)))
 |cons p t ih=>
  intro pre hp hl hn
  simp only[List.length_cons] at hl hn
  refine Ev.step (fun k=>rfl) (ev_pos (by omega) (ev_pos (by omega) (ev_pos (by simp only[List.length_append,List.length_cons];omega) ?_)))
  simp only[rd_midp]
  refine ev_then (implCopyPut_eq _ _ _ _ _ _ (hp p (List.mem_cons_self ..))) (ev_pos (by omega) ?_)
  rw[w64 (x:=(pre.length:Int)+1) (by omega) (by omega)]
  have:=ih (pre++[p]) (fun q hq=>hp q (List.mem_cons_of_mem _ hq)) (by simp only[List.length_append,List.length_cons,List.length_nil];omega) (by simp only[List.length_append,List.length_cons,List.length_nil];omega)
  simp only[List.append_assoc,List.singleton_append,List.length_append,List.length_cons,List.length_nil] at this
  exact this
theorem implCopy_ev (a b:List Int)(c d e:Int)(l:List S91)(ha:a.length≤4194304)(hb:b.length≤4194304)(hl:PutsOk 4194304 l):Ev (fun k=>impl_copyDisk.f k a b c d e l) (a,b,c,d,e,l):=by
 unfold impl_copyDisk.f impl_cloned.f
 rw[if_pos (by omega),if_pos (by omega)]
 exact ev_then rfl (ev_then rfl (implCopy_key c d e a b l.length l [] hl.2 (by simpa using hl.1) (by simp)))
theorem within_eq (a lo hi:Int):impl_within.f a lo hi=some (decide (lo≤a∧a≤hi)):=by
 unfold impl_within.f
 by_cases h:lo≤a
 ·rw[if_pos h];simp [h]
 ·rw[if_neg h];simp [h]
theorem l1In_eq (a lo hi:Int):spec_l1In.f a lo hi=some (decide (lo≤a∧a≤hi)):=within_eq a lo hi
theorem not_dec {p:Prop}[Decidable p](h:¬p):¬(decide p=true):=fun e=>h (of_decide_eq_true e)
def recordOk (a b c:Int):Bool:=decide (0≤a∧a≤1000000∧0≤b∧b≤1∧0≤c∧c≤240)
theorem specRecord_eq (a b c:Int):spec_l9Record.f a b c=some (recordOk a b c):=by
 unfold spec_l9Record.f recordOk
 simp only[l1In_eq,Option.bind_some]
 by_cases h1:0≤a∧a≤1000000
 ·rw[if_pos (decide_eq_true h1)]
  by_cases h2:0≤b∧b≤1
  ·rw[if_pos (decide_eq_true h2)]
   exact congrArg some (decide_eq_decide.2 (by omega))
  ·rw[if_neg (not_dec h2)]
   exact congrArg some (decide_eq_false (by omega)).symm
 ·rw[if_neg (not_dec h1)]
  exact congrArg some (decide_eq_false (by omega)).symm
theorem implIsSlot_eq (a:Int):impl_isSlot.f a=some (decide (0≤a∧a≤1)):=by
 unfold impl_isSlot.f
 by_cases h:a=0
 ·rw[if_pos h]
  exact congrArg some (decide_eq_true (by omega)).symm
 ·rw[if_neg h]
  refine congrArg some ?_
  by_cases h':a=1
  ·subst h';rfl
  ·rw[decide_eq_false (by omega)]
   exact beq_eq_false_iff_ne.mpr h'
theorem implRecord_eq (a b c:Int):impl_isRecord.f a b c=some (recordOk a b c):=by
 unfold impl_isRecord.f impl_isGen.f recordOk
 simp only[within_eq,implIsSlot_eq,Option.bind_some]
 by_cases h1:0≤a∧a≤1000000
 ·rw[if_pos (decide_eq_true h1)]
  by_cases h2:0≤b∧b≤1
  ·rw[if_pos (decide_eq_true h2)]
   exact congrArg some (decide_eq_decide.2 (by omega))
  ·rw[if_neg (not_dec h2)]
   exact congrArg some (decide_eq_false (by omega)).symm
 ·rw[if_neg (not_dec h1)]
  exact congrArg some (decide_eq_false (by omega)).symm
def putOk (p:S91):Bool:=if p.f0=2 then (decide (p.f1=0∧p.f2.length=0)&&recordOk p.f3.f0 p.f3.f1 p.f3.f2) else decide (0≤p.f0∧p.f0≤1∧0≤p.f1∧p.f1+p.f2.length≤240∧p.f3.f0=0∧p.f3.f1=0∧p.f3.f2=0)
theorem zero3 (a b c:Int):(a==0&&(b==0&&(c==0)))=decide (a=0∧b=0∧c=0):=by
 by_cases h1:a=0<;>by_cases h2:b=0<;>by_cases h3:c=0<;>simp [h1,h2,h3]
theorem specPut_eq (p:S91)(hl:p.f2.length≤9223372036854775807):spec_l9Put.f p.f0 p.f1 p.f2 p.f3.f0 p.f3.f1 p.f3.f2=some (putOk p):=by
 unfold spec_l9Put.f putOk
 simp only[l1In_eq,specRecord_eq,zero3,Option.bind_some]
 by_cases h:p.f0=2
 ·rw[if_pos h,if_pos h]
  by_cases h1:p.f1=0
  ·rw[if_pos h1]
   by_cases h2:p.f2.length=0
   ·rw[if_pos (by omega),decide_eq_true ⟨h1,h2⟩];rfl
   ·rw[if_neg (by omega),decide_eq_false (by omega)];rfl
  ·rw[if_neg h1,decide_eq_false (by omega)];rfl
 ·rw[if_neg h,if_neg h]
  by_cases h1:0≤p.f0∧p.f0≤1
  ·rw[if_pos (decide_eq_true h1)]
   by_cases h2:0≤p.f1∧p.f1≤240
   ·rw[if_pos (decide_eq_true h2),w64 (by omega) (by omega)]
    by_cases h3:(p.f2.length:Int)≤240 - p.f1
    ·rw[if_pos h3]
     exact congrArg some (decide_eq_decide.2 (by omega))
    ·rw[if_neg h3]
     exact congrArg some (decide_eq_false (by omega)).symm
   ·rw[if_neg (not_dec h2)]
    exact congrArg some (decide_eq_false (by omega)).symm
  ·rw[if_neg (not_dec h1)]
   exact congrArg some (decide_eq_false (by omega)).symm
theorem implPut_eq (p:S91)(hl:p.f2.length≤9223372036854775807):impl_isPut.f p.f0 p.f1 p.f2 p.f3.f0 p.f3.f1 p.f3.f2=some (putOk p):=by
 unfold impl_isPut.f putOk
 simp only[within_eq,implIsSlot_eq,implRecord_eq,zero3,Option.bind_some]
 by_cases h:p.f0=2
 ·rw[if_pos h,if_pos h]
  by_cases h1:p.f1=0
  ·rw[if_pos h1]
   by_cases h2:p.f2.length=0
   ·rw[if_pos (by omega),decide_eq_true ⟨h1,h2⟩];rfl
   ·rw[if_neg (by omega),decide_eq_false (by omega)];rfl
  ·rw[if_neg h1,decide_eq_false (by omega)];rfl
 ·rw[if_neg h,if_neg h]
  by_cases h1:0≤p.f0∧p.f0≤1
  ·rw[if_pos (decide_eq_true h1)]
   by_cases h2:p.f3.f0=0∧p.f3.f1=0∧p.f3.f2=0
   ·rw[if_pos (decide_eq_true h2),w64 (by omega) (by omega)]
    exact congrArg some (decide_eq_decide.2 (by omega))
   ·rw[if_neg (not_dec h2)]
    exact congrArg some (decide_eq_false (by omega)).symm
  ·rw[if_neg (not_dec h1)]
   exact congrArg some (decide_eq_false (by omega)).symm
def slotOf (a b:List Int)(s:Int):List Int:=if s=0 then a else b
def putsOk (l:List S91):Bool:=(List.range l.length).all (fun i=>putOk (l.getD i z91))
def diskOk (a b:List Int)(c d e:Int)(l:List S91):Bool:=decide (a.length≤240∧b.length≤240∧l.length≤200∧e≤(slotOf a b d).length)&&(recordOk c d e&&putsOk l)
theorem diskOk_false {a b:List Int}{c d e:Int}{l:List S91}(h:¬(a.length≤240∧b.length≤240∧l.length≤200∧e≤(slotOf a b d).length)):false=diskOk a b c d e l:=by
 unfold diskOk
 rw[decide_eq_false h];rfl
theorem diskOk_rec {a b:List Int}{c d e:Int}{l:List S91}(h:recordOk c d e=false):false=diskOk a b c d e l:=by
 unfold diskOk
 rw[h,Bool.false_and,Bool.and_false]
theorem diskOk_puts {a b:List Int}{c d e:Int}{l:List S91}(h:a.length≤240∧b.length≤240∧l.length≤200∧e≤(slotOf a b d).length)(h':recordOk c d e=true):putsOk l=diskOk a b c d e l:=by
 unfold diskOk
 rw[decide_eq_true h,h',Bool.true_and,Bool.true_and]
theorem lslot_yes {d:Int}(h:d=1):spec_l9Slot.f d 1=some ():=if_pos (Or.inl ⟨h,rfl⟩)
theorem lslot_no {d:Int}(h:¬d=1):spec_l9Slot.f d 0=some ():=if_pos (Or.inr ⟨h,rfl⟩)
theorem slotOf_one {a b:List Int}{d:Int}(h:d=1):slotOf a b d=b:=if_neg (by omega)
theorem slotOf_other {a b:List Int}{c d e:Int}(r:recordOk c d e=true)(h:¬d=1):slotOf a b d=a:=if_pos (by have:=of_decide_eq_true r;omega)
theorem specDiskOk_ev (a b:List Int)(c d e:Int)(l:List S91)(hl:PutsOk 4194304 l):Ev (fun k=>spec_DiskOk.f k a b c d e l) (diskOk a b c d e l):=by
 have badE:Ev (fun k=>spec_DiskOk.j0 k true a b c d e l) false:=Ev.step (fun k=>rfl) (ev_true (g:=fun k=>spec_DiskOk.l0 k 0 a b c d e l) ev_some)
 have loop:Ev (fun k=>spec_DiskOk.l0 k 0 a b c d e l) (putsOk l):=by
  refine loop_all (fun k i=>spec_DiskOk.l0 k i a b c d e l) l.length (fun i=>putOk (l.getD i z91)) ?_ ?_ ?_
  ·intro i r hi hp h
   refine Ev.step (fun k=>rfl) (ev_pos (by omega) (ev_pos (by omega) ?_))
   simp only[rd_T91,Int.toNat_natCast]
   refine ev_then (specPut_eq _ (by have:=hl.2 _ (getD_mem z91 hi);omega)) (ev_pos hp ?_)
   rw[w64 (by have:=hl.1;omega) (by have:=hl.1;omega)]
   exact h
  ·intro i hi hp
   refine Ev.step (fun k=>rfl) (ev_pos (by omega) (ev_pos (by omega) ?_))
   simp only[rd_T91,Int.toNat_natCast]
   exact ev_then (specPut_eq _ (by have:=hl.2 _ (getD_mem z91 hi);omega)) (ev_neg (by rw[hp];decide) ev_some)
  ·exact Ev.step (fun k=>rfl) (ev_neg (by omega) ev_some)
 unfold spec_DiskOk.f
 by_cases h1:(a.length:Int)>240
 ·exact ev_pos h1 (ev_eq badE (diskOk_false (by omega)))
 refine ev_neg h1 ?_
 by_cases h2:(b.length:Int)>240
 ·exact ev_pos h2 (ev_eq badE (diskOk_false (by omega)))
 refine ev_neg h2 (ev_then (specRecord_eq c d e) ?_)
 by_cases h3:recordOk c d e=true
 ·refine ev_pos h3 ?_
  have rest:∀n:List Int,slotOf a b d=n→Ev (fun k=>if e>(n.length:Int) then spec_DiskOk.j0 k true a b c d e l else spec_DiskOk.j0 k (decide ((l.length:Int)>200)) a b c d e l) (diskOk a b c d e l):=by
   intro n hs
   by_cases h4:e>(n.length:Int)
   ·exact ev_pos h4 (ev_eq badE (diskOk_false (by rw[hs];omega)))
   refine ev_neg h4 (Ev.step (fun k=>rfl) ?_)
   by_cases h5:(l.length:Int)>200
   ·exact ev_pos (decide_eq_true h5) (ev_eq ev_some (diskOk_false (by omega)))
   ·exact ev_neg (not_dec h5) (ev_eq loop (diskOk_puts (by rw[hs];omega) h3))
  by_cases q:d=1
  ·exact ev_pos q (ev_then (lslot_yes q) (rest b (slotOf_one q)))
  ·exact ev_neg q (ev_then (lslot_no q) (rest a (slotOf_other h3 q)))
 ·exact ev_neg h3 (ev_eq badE (diskOk_rec (by simpa using h3)))
theorem implPutsBad_ev (l:List S91)(hl:PutsOk 4194304 l):Ev (fun k=>impl_Put_103.f k l) (!putsOk l):=by
 have one:∀i,i<l.length→impl_DiskOk_1.f (l.getD i z91).f0 (l.getD i z91).f1 (l.getD i z91).f2 (l.getD i z91).f3.f0 (l.getD i z91).f3.f1 (l.getD i z91).f3.f2=some (!putOk (l.getD i z91)):=by
  intro i hi
  unfold impl_DiskOk_1.f
  rw[implPut_eq _ (by have:=hl.2 _ (getD_mem z91 hi);omega)]
  rfl
 have h:=loop_find (fun k i=>impl_Put_122.l0 k l (l.length:Int) i) l.length (fun i=>!putOk (l.getD i z91)) (fun i=>(i:Int)) (-1) (fun i hi hp=>by
   refine Ev.step (fun k=>rfl) (ev_pos (by omega) (ev_pos (by omega) (ev_pos (by omega) ?_)))
   simp only[rd_T91,Int.toNat_natCast]
   exact ev_then (one i hi) (ev_pos hp ev_some)) (fun i r hi hp h=>by
   refine Ev.step (fun k=>rfl) (ev_pos (by omega) (ev_pos (by omega) (ev_pos (by omega) ?_)))
   simp only[rd_T91,Int.toNat_natCast]
   refine ev_then (one i hi) (ev_neg (by rw[hp];decide) ?_)
   rw[w64 (by have:=hl.1;omega) (by have:=hl.1;omega)]
   exact h) (Ev.step (fun k=>rfl) (ev_neg (by omega) ev_some))
 unfold impl_Put_103.f impl_Put_122.f
 refine Ev.bind h (ev_eq ev_some ?_)
 unfold putsOk
 cases hf:(List.range l.length).find? (fun i=>!putOk (l.getD i z91)) with
 | some i=>
  have h1:=List.find?_some hf
  have h2:=List.mem_of_find?_eq_some hf
  have h3:(List.range l.length).all (fun i=>putOk (l.getD i z91))=false:=by
   rw[List.all_eq_false]
   exact⟨i,h2,by simpa using h1⟩
  rw[h3]
  exact decide_eq_true (Int.natCast_nonneg i)
 | none=>
  have h3:(List.range l.length).all (fun i=>putOk (l.getD i z91))=true:=by
   rw[List.all_eq_true]
   intro x hx
   have:=List.find?_eq_none.1 hf x hx
   simpa using this
  rw[h3]
  rfl
theorem slot_yes {d:Int}(h:d=0):impl_Disk_slot.f d 0=some ():=if_pos (Or.inl ⟨h,rfl⟩)
theorem slot_no {d:Int}(h:¬d=0):impl_Disk_slot.f d 1=some ():=if_pos (Or.inr ⟨h,rfl⟩)
theorem implDiskOk_ev (a b:List Int)(c d e:Int)(l:List S91)(hl:PutsOk 4194304 l):Ev (fun k=>impl_DiskOk.f k a b c d e l) (diskOk a b c d e l):=by
 unfold impl_DiskOk.f
 by_cases h1:(a.length:Int)>240
 ·exact ev_pos h1 (ev_eq ev_some (diskOk_false (by omega)))
 refine ev_neg h1 ?_
 by_cases h2:(b.length:Int)>240
 ·exact ev_pos h2 (ev_eq ev_some (diskOk_false (by omega)))
 refine ev_neg h2 (ev_then (implRecord_eq c d e) ?_)
 by_cases h3:recordOk c d e=true
 ·refine ev_pos h3 ?_
  have puts:(a.length≤240∧b.length≤240∧l.length≤200∧e≤(slotOf a b d).length)→Ev (fun k=>(impl_Put_103.f k l).bind fun t=>some (!t)) (diskOk a b c d e l):=
   fun h=>Ev.bind (implPutsBad_ev l hl) (ev_eq ev_some (by rw[Bool.not_not];exact diskOk_puts h h3))
  by_cases h4:d=0
  ·have hs:slotOf a b d=a:=if_pos h4
   refine ev_pos h4 (ev_then (slot_yes h4) ?_)
   by_cases h5:e>(a.length:Int)
   ·exact ev_pos h5 (ev_eq ev_some (diskOk_false (by rw[hs];omega)))
   refine ev_neg h5 ?_
   by_cases h6:(l.length:Int)≤200
   ·exact ev_pos h6 (puts (by rw[hs];omega))
   ·exact ev_neg h6 (ev_eq ev_some (diskOk_false (by omega)))
  ·have hs:slotOf a b d=b:=if_neg h4
   refine ev_neg h4 (ev_then (slot_no h4) ?_)
   by_cases h5:e>(b.length:Int)
   ·exact ev_pos h5 (ev_eq ev_some (diskOk_false (by rw[hs];omega)))
   refine ev_neg h5 ?_
   by_cases h6:(l.length:Int)≤200
   ·exact ev_pos h6 (puts (by rw[hs];omega))
   ·exact ev_neg h6 (ev_eq ev_some (diskOk_false (by omega)))
 ·exact ev_neg h3 (ev_eq ev_some (diskOk_rec (by simpa using h3)))
def added (a b:List Int)(c d e:Int)(l:List S91)(p:S91):List Int×List Int×Int×Int×Int×List S91×Bool:=
 if diskOk a b c d e (l++[p])=true then (a,b,c,d,e,l++[p],true) else (a,b,c,d,e,l,false)
theorem putsOk_add {n:Nat}{l:List S91}{p:S91}(h:PutsOk n l)(hp:p.f2.length≤n+1):PutsOk (n+1) (l++[p]):=by
 refine⟨by simpa using h.1,fun q hq=>?_⟩
 rcases List.mem_append.1 hq with h1|h1
 ·have:=h.2 q h1;omega
 ·rw[List.mem_singleton] at h1
  subst h1
  exact hp
theorem specAdd_ev (a b:List Int)(c d e:Int)(l:List S91)(p:S91)(ha:a.length≤1048576)(hb:b.length≤1048576)(hl:PutsOk 1048576 l)(hp:p.f2.length≤1048576):
  Ev (fun k=>spec_l9Add.f k a b c d e l p.f0 p.f1 p.f2 p.f3.f0 p.f3.f1 p.f3.f2) (added a b c d e l p):=by
 unfold spec_l9Add.f added
 have hc:=specCopy_ev a b c d e l (by omega) (by omega) (putsOk_le (by omega) hl)
 refine Ev.bind hc (ev_then (specCopyPut_eq _ _ _ _ _ _ (by omega)) (ev_pos (by have:=hl.1;simp only;omega) (ev_then rfl ?_)))
 refine Ev.bind (specDiskOk_ev a b c d e (l++[p]) (putsOk_le (by omega) (putsOk_add (p:=p) hl (by omega)))) (ev_if (fun h=>ev_eq ev_some (by rw[if_pos h])) (fun h=>?_))
 rw[if_neg h]
 exact Ev.bind hc ev_some
theorem implAdd_ev (a b:List Int)(c d e:Int)(l:List S91)(p:S91)(ha:a.length≤1048576)(hb:b.length≤1048576)(hl:PutsOk 1048576 l)(hp:p.f2.length≤1048576):
  Ev (fun k=>impl_Disk_with.f k a b c d e l p.f0 p.f1 p.f2 p.f3.f0 p.f3.f1 p.f3.f2) (added a b c d e l p):=by
 unfold impl_Disk_with.f added
 have hc:=implCopy_ev a b c d e l (by omega) (by omega) (putsOk_le (by omega) hl)
 refine Ev.bind hc (ev_then (implCopyPut_eq _ _ _ _ _ _ (by omega)) (ev_pos (by have:=hl.1;simp only;omega) (ev_then rfl ?_)))
 refine Ev.bind (implDiskOk_ev a b c d e (l++[p]) (putsOk_le (by omega) (putsOk_add (p:=p) hl (by omega)))) (ev_if (fun h=>ev_eq ev_some (by rw[if_pos h])) (fun h=>?_))
 rw[if_neg h]
 exact Ev.bind hc ev_some
def putBytes (a b:List Int)(c d e:Int)(l:List S91)(s t:Int)(x:List Int):List Int×List Int×Int×Int×Int×List S91×Bool:=
 if 0≤s∧s≤1 then added a b c d e l ⟨s,t,x,⟨0,0,0⟩⟩ else (a,b,c,d,e,l,false)
theorem specPutBytes_ev (a b:List Int)(c d e:Int)(l:List S91)(s t:Int)(x:List Int)(ha:a.length≤1048576)(hb:b.length≤1048576)(hl:PutsOk 1048576 l)(hx:x.length≤1048576):
  Ev (fun k=>spec_PutBytes.f k a b c d e l s t x) (putBytes a b c d e l s t x):=by
 unfold spec_PutBytes.f putBytes
 refine ev_then (l1In_eq s 0 1) ?_
 by_cases h:0≤s∧s≤1
 ·rw[if_pos h]
  exact ev_pos (decide_eq_true h) (Ev.bind (specAdd_ev a b c d e l ⟨s,t,x,⟨0,0,0⟩⟩ ha hb hl hx) ev_some)
 ·rw[if_neg h]
  exact ev_neg (not_dec h) (Ev.bind (specCopy_ev a b c d e l (by omega) (by omega) (putsOk_le (by omega) hl)) ev_some)
theorem implPutBytes_ev (a b:List Int)(c d e:Int)(l:List S91)(s t:Int)(x:List Int)(ha:a.length≤1048576)(hb:b.length≤1048576)(hl:PutsOk 1048576 l)(hx:x.length≤1048576):
  Ev (fun k=>impl_PutBytes.f k a b c d e l s t x) (putBytes a b c d e l s t x):=by
 unfold impl_PutBytes.f putBytes
 refine ev_then (implIsSlot_eq s) ?_
 by_cases h:0≤s∧s≤1
 ·rw[if_pos h]
  exact ev_pos (decide_eq_true h) (Ev.bind (implAdd_ev a b c d e l ⟨s,t,x,⟨0,0,0⟩⟩ ha hb hl hx) ev_some)
 ·rw[if_neg h]
  exact ev_neg (not_dec h) (Ev.bind (implCopy_ev a b c d e l (by omega) (by omega) (putsOk_le (by omega) hl)) ev_some)
def sizeOk (a b:Int):Bool:=decide (2≤a∧a≤6)&&decide (0≤b∧b≤40 * a)
theorem specSizeOk_eq (a b:Int):spec_SizeOk.f a b=some (sizeOk a b):=by
 unfold spec_SizeOk.f sizeOk
 rw[l1In_eq]
 simp only[Option.bind_some]
 by_cases h:2≤a∧a≤6
 ·rw[if_pos (by simpa using h),l1In_eq,w64 (by omega) (by omega)]
  simp [h,Int.mul_comm]
 ·rw[if_neg (by simpa using h)]
  simp [h]
theorem implSizeOk_eq (a b:Int):impl_SizeOk.f a b=some (sizeOk a b):=by
 unfold impl_SizeOk.f sizeOk
 rw[within_eq]
 simp only[Option.bind_some]
 by_cases h:2≤a∧a≤6
 ·rw[if_pos (by simpa using h),within_eq,w64 (by omega) (by omega)]
  simp [h,Int.mul_comm]
 ·rw[if_neg (by simpa using h)]
  simp [h]
theorem sizeOk_iff {a b:Int}:sizeOk a b=true↔(2≤a∧a≤6)∧0≤b∧b≤40 * a:=by simp [sizeOk,and_assoc]
def blocks (a b:Int):Int:=if sizeOk a b=true then (b+a - 1) / a else 0
theorem ceil_le {a b:Int}(h:(2≤a∧a≤6)∧0≤b∧b≤40 * a):0≤(b+a - 1) / a∧(b+a - 1) / a≤40:=by
 constructor
 ·exact Int.ediv_nonneg (by omega) (by omega)
 ·have:(b+a - 1) / a<41:=by
   apply Int.ediv_lt_of_lt_mul (by omega)
   omega
  omega
theorem specBlocks_eq (a b:Int):spec_Blocks.f a b=some (blocks a b):=by
 unfold spec_Blocks.f blocks
 rw[specSizeOk_eq]
 simp only[Option.bind_some]
 by_cases h:sizeOk a b=true
 ·have h':=sizeOk_iff.1 h
  have c:=ceil_le h'
  rw[if_pos h,if_pos h]
  unfold spec_CeilDiv.f
  rw[l1In_eq]
  simp only[Option.bind_some]
  rw[if_pos (by simp;omega),l1In_eq]
  simp only[Option.bind_some]
  rw[if_pos (by simp;omega),if_neg (by omega),w64 (x:=b+a) (by omega) (by omega),w64 (x:=b+a - 1) (by omega) (by omega),Int.tdiv_eq_ediv_of_nonneg (by omega),w64 (by omega) (by omega)]
  rfl
 ·rw[if_neg h,if_neg h]
theorem implBlocks_eq (a b:Int):impl_Blocks.f a b=some (blocks a b):=by
 unfold impl_Blocks.f blocks
 rw[implSizeOk_eq]
 simp only[Option.bind_some]
 by_cases h:sizeOk a b=true
 ·have h':=sizeOk_iff.1 h
  have c:=ceil_le h'
  rw[if_pos h,if_pos h]
  unfold impl_CeilDiv.f
  rw[within_eq]
  simp only[Option.bind_some]
  rw[if_pos (by simp;omega),within_eq]
  simp only[Option.bind_some]
  rw[if_pos (by simp;omega),if_neg (by omega),w64 (x:=b+a) (by omega) (by omega),w64 (x:=b+a - 1) (by omega) (by omega),Int.tdiv_eq_ediv_of_nonneg (by omega),w64 (by omega) (by omega)]
  rfl
 ·rw[if_neg h,if_neg h]
theorem blocks_range (a b:Int):0≤blocks a b∧blocks a b≤40:=by
 unfold blocks
 split
 ·rename_i h
  exact ceil_le (sizeOk_iff.1 h)
 ·omega
theorem blocks_pos {a b:Int}(h:0<blocks a b):(2≤a∧a≤6)∧0≤b∧b≤40 * a:=by
 unfold blocks at h
 split at h
 ·rename_i q
  exact sizeOk_iff.1 q
 ·omega
def spanOf (a b i:Int):Int×Int:=if 0≤i∧i≤blocks a b - 1 then (i * a,if b - i * a<a then b - i * a else a) else (0,0)
theorem span_at {a b i:Int}(h:0≤i∧i≤blocks a b - 1):0≤i * a∧i * a<b∧b≤240∧2≤a∧a≤6:=by
 have q:=blocks_pos (a:=a) (b:=b) (by omega)
 have e:blocks a b=(b+a - 1) / a:=by
  unfold blocks
  rw[if_pos (sizeOk_iff.2 q)]
 rw[e] at h
 have m:(b+a - 1) / a * a≤b+a - 1:=Int.ediv_mul_le _ (by omega)
 have m2:(i+1) * a≤(b+a - 1) / a * a:=Int.mul_le_mul_of_nonneg_right (by omega) (by omega)
 have m3:0≤i * a:=Int.mul_nonneg h.1 (by omega)
 rw[Int.add_mul] at m2
 omega
theorem spanOf_range (a b i:Int):0≤(spanOf a b i).1∧(spanOf a b i).1≤240∧0≤(spanOf a b i).2∧(spanOf a b i).2≤6∧(spanOf a b i).1+(spanOf a b i).2≤240:=by
 unfold spanOf
 split
 ·rename_i h
  have:=span_at h
  simp only
  split<;>omega
 ·simp
theorem specSpanOf_eq (a b i:Int):spec_SpanOf.f a b i=some (spanOf a b i):=by
 unfold spec_SpanOf.f spanOf
 have r:=blocks_range a b
 rw[specBlocks_eq]
 simp only[Option.bind_some]
 rw[w64 (x:=blocks a b - 1) (by omega) (by omega),l1In_eq]
 simp only[Option.bind_some]
 by_cases h:0≤i∧i≤blocks a b - 1
 ·have s:=span_at h
  rw[if_pos (by simpa using h),if_pos h,w64 (x:=i * a) (by omega) (by omega),w64 (x:=b - i * a) (by omega) (by omega)]
  unfold spec_Least.f
  split<;>simp
 ·rw[if_neg (by simpa using h),if_neg h]
theorem implSpanOf_eq (a b i:Int):impl_SpanOf.f a b i=some (spanOf a b i):=by
 unfold impl_SpanOf.f spanOf
 have r:=blocks_range a b
 rw[implBlocks_eq]
 simp only[Option.bind_some]
 rw[w64 (x:=blocks a b - 1) (by omega) (by omega),within_eq]
 simp only[Option.bind_some]
 by_cases h:0≤i∧i≤blocks a b - 1
 ·have s:=span_at h
  rw[if_pos (by simpa using h),if_pos h,w64 (x:=i * a) (by omega) (by omega),w64 (x:=b - i * a) (by omega) (by omega)]
  rfl
 ·rw[if_neg (by simpa using h),if_neg h]
def block (n:Int)(l:List Int)(i:Int):List Int:=(l.take ((spanOf n l.length i).1+(spanOf n l.length i).2).toNat).drop (spanOf n l.length i).1.toNat
theorem span_zero {a b i:Int}(h:(spanOf a b i).2=0):spanOf a b i=(0,0):=by
 unfold spanOf at h ⊢
 split at h
 ·rename_i q
  have s:=span_at q
  simp only at h
  split at h<;>omega
 ·rename_i q
  rw[if_neg q]
theorem block_nil {n:Int}{l:List Int}{i:Int}(h:(spanOf n l.length i).2=0):block n l i=[]:=by
 unfold block
 rw[span_zero h]
 simp
theorem block_in (n:Int)(l:List Int)(i:Int):(spanOf n l.length i).1+(spanOf n l.length i).2≤l.length:=by
 unfold spanOf
 split
 ·rename_i h
  have s:=span_at h
  simp only
  split<;>omega
 ·simp
theorem block_length (n:Int)(l:List Int)(i:Int):(block n l i).length≤240:=by
 have:=spanOf_range n l.length i
 unfold block
 rw[List.length_drop,List.length_take]
 omega
theorem implBlockAt_eq (l:List Int)(n i:Int)(hl:l.length≤1048576):impl_BlockAt.f l n i=some (block n l i,!decide ((spanOf n l.length i).2=0)):=by
 have r:=spanOf_range n l.length i
 have hs:=block_in n l i
 have pl:=block_length n l i
 unfold impl_BlockAt.f
 rw[implSpanOf_eq]
 simp only[Option.bind_some]
 by_cases h:(spanOf n l.length i).2=0
 ·rw[if_pos h,block_nil h,decide_eq_true h];rfl
 ·unfold block at pl
  rw[if_neg h,decide_eq_false h]
  unfold impl_Slice.f impl_cloned.f
  rw[within_eq]
  simp only[Option.bind_some]
  rw[if_pos (decide_eq_true (by omega)),w64 (x:=(l.length:Int) - (spanOf n l.length i).1) (by omega) (by omega),within_eq]
  simp only[Option.bind_some]
  rw[if_pos (decide_eq_true (by omega)),w64 (by omega) (by omega),if_pos (by omega),if_pos (by omega),if_pos (by omega),if_pos (by omega)]
  rfl
theorem specBlockAt_eq (l:List Int)(n i:Int):spec_BlockAt.f l n i=some (block n l i,!decide ((spanOf n l.length i).2=0)):=by
 have r:=spanOf_range n l.length i
 have hs:=block_in n l i
 have pl:=block_length n l i
 unfold spec_BlockAt.f
 rw[specSpanOf_eq]
 simp only[Option.bind_some]
 by_cases h:(spanOf n l.length i).2=0
 ·rw[if_pos h,block_nil h,decide_eq_true h];rfl
 ·unfold block at pl
  rw[if_neg h,decide_eq_false h,w64 (by omega) (by omega),if_pos (by omega),if_pos (by omega),if_pos (by omega),if_pos (by simp only[List.length_nil];omega)]
  rfl
def stageP (d n:Int)(x:List Int)(i:Nat):S91:=⟨1 - d,(i:Int) * n,block n x (i:Int),⟨0,0,0⟩⟩
def stageL (a b:List Int)(c d e n:Int)(x:List Int):Nat→Nat→List S91→Option (List S91)
 |0,_,l=>some l
 |r+1,i,l=>if diskOk a b c d e (l++[stageP d n x i])=true then stageL a b c d e n x r (i+1) (l++[stageP d n x i]) else none
def staged (a b:List Int)(c d e:Int):Option (List S91)→List Int×List Int×Int×Int×Int×List S91×Bool
 |some l=>(a,b,c,d,e,l,true)
 |none=>(a,b,c,d,e,[],false)
def stage (a b:List Int)(c d e:Int)(l:List S91)(x:List Int)(n:Int):List Int×List Int×Int×Int×Int×List S91×Bool:=
 if diskOk a b c d e l=true∧l.length=0∧sizeOk n x.length=true then staged a b c d e (stageL a b c d e n x (blocks n x.length).toNat 0 []) else (a,b,c,d,e,l,false)
theorem stageP_len (d n:Int)(x:List Int)(i:Nat):(stageP d n x i).f2.length≤240:=block_length n x (i:Int)
def StOk (i:Nat)(l:List S91):Prop:=l.length≤i∧∀p ∈ l,p.f2.length≤240
theorem StOk.ok {i:Nat}{l:List S91}(h:StOk i l)(hi:i≤4000):PutsOk 4096 l:=⟨by have:=h.1;omega,fun p hp=>by have:=h.2 p hp;omega⟩
theorem StOk.next {i:Nat}{l:List S91}(h:StOk i l)(d n:Int)(x:List Int):StOk (i+1) (l++[stageP d n x i]):=by
 refine⟨by have:=h.1;simp only[List.length_append,List.length_cons,List.length_nil];omega,fun p hp=>?_⟩
 rcases List.mem_append.1 hp with q|q
 ·exact h.2 p q
 ·rw[List.mem_singleton] at q
  subst q
  exact stageP_len d n x i
theorem stageL_ok {a b:List Int}{c d e n:Int}{x:List Int}:∀(r i:Nat) (l l':List S91),StOk i l→stageL a b c d e n x r i l=some l'→StOk (i+r) l'
 |0,i,l,l',h,q=>by
  unfold stageL at q
  cases q
  exact h
 | r+1,i,l,l',h,q=>by
  unfold stageL at q
  split at q
  ·have:=stageL_ok r (i+1) _ l' (h.next d n x) q
   rwa [Nat.add_assoc,Nat.add_comm 1 r] at this
  ·cases q
theorem put_added (a b:List Int)(c d e:Int)(l:List S91)(n:Int)(x:List Int)(i:Nat)(hd:0≤d∧d≤1):putBytes a b c d e l (1 - d) ((i:Int) * n) (block n x (i:Int))=added a b c d e l (stageP d n x i):=by
 unfold putBytes
 rw[if_pos (by omega)]
 rfl
theorem span_first {a b i:Int}(h:0≤i∧i≤blocks a b - 1):(spanOf a b i).1=i * a:=by
 unfold spanOf
 rw[if_pos h]
theorem specStage_key (a b:List Int)(c d e n:Int)(x:List Int)(hx:x.length≤1048576)(hd:0≤d∧d≤1)(ha:a.length≤1048576)(hb:b.length≤1048576):∀(r i:Nat) (l:List S91),(i:Int)+r=blocks n x.length→StOk i l→
  Ev (fun k=>spec_StageAll.l0 k x n (i:Int) a b c d e [] a b c d e l) (staged a b c d e (stageL a b c d e n x r i l)):=by
 intro r
 have rg:=blocks_range n x.length
 induction r with
 |zero=>
  intro i l hi hl
  exact Ev.step (fun k=>rfl) (ev_then (specBlocks_eq n x.length) (ev_neg (by omega) (ev_eq ev_some rfl)))
 | succ r ih=>
  intro i l hi hl
  have sp:=span_at (a:=n) (b:=x.length) (i:=(i:Int)) (by omega)
  refine Ev.step (fun k=>rfl) (ev_then (specBlocks_eq n x.length) (ev_pos (by omega) ?_))
  refine ev_then (specSpanOf_eq n x.length i) (ev_then (specBlockAt_eq x n i) ?_)
  have e1:spec_Spare.f a b c d e []=some (1 - d):=by
   unfold spec_Spare.f
   rw[w64 (by omega) (by omega)]
  refine ev_then e1 ?_
  simp only[span_first (a:=n) (b:=x.length) (i:=(i:Int)) (by omega)]
  have pb:=specPutBytes_ev a b c d e l (1 - d) ((i:Int) * n) (block n x (i:Int)) ha hb (putsOk_le (by omega) (hl.ok (by omega))) (by have:=block_length n x (i:Int);omega)
  rw[put_added a b c d e l n x i hd] at pb
  refine Ev.bind pb ?_
  unfold added stageL
  by_cases q:diskOk a b c d e (l++[stageP d n x i])=true
  ·rw[if_pos q,if_pos q,w64 (x:=(i:Int)+1) (by omega) (by omega)]
   exact ev_pos rfl (ih (i+1) _ (by omega) (hl.next d n x))
  ·rw[if_neg q,if_neg q]
   exact ev_neg (fun q=>by cases q) (Ev.bind (specCopy_ev a b c d e [] (by omega) (by omega) ⟨by simp,fun p hp=>by cases hp⟩) ev_some)
theorem implStage_key (a b:List Int)(c d e n:Int)(x:List Int)(hx:x.length≤1048576)(hd:0≤d∧d≤1)(ha:a.length≤1048576)(hb:b.length≤1048576):∀(r i:Nat) (l:List S91),(i:Int)+r=blocks n x.length→StOk i l→
  Ev (fun k=>impl_StageAll.l0 k x n (blocks n x.length) (i:Int) a b c d e [] a b c d e l) (staged a b c d e (stageL a b c d e n x r i l)):=by
 intro r
 have rg:=blocks_range n x.length
 induction r with
 |zero=>
  intro i l hi hl
  exact Ev.step (fun k=>rfl) (ev_neg (by omega) (ev_eq ev_some rfl))
 | succ r ih=>
  intro i l hi hl
  have sp:=span_at (a:=n) (b:=x.length) (i:=(i:Int)) (by omega)
  refine Ev.step (fun k=>rfl) (ev_pos (by omega) (ev_then (implBlockAt_eq x n i hx) ?_))
  have e1:impl_Spare.f a b c d e []=some (1 - d):=by
   unfold impl_Spare.f
   rw[w64 (by omega) (by omega)]
  refine ev_then e1 ?_
  rw[w64 (x:=(i:Int) * n) (by omega) (by omega)]
  have pb:=implPutBytes_ev a b c d e l (1 - d) ((i:Int) * n) (block n x (i:Int)) ha hb (putsOk_le (by omega) (hl.ok (by omega))) (by have:=block_length n x (i:Int);omega)
  rw[put_added a b c d e l n x i hd] at pb
  refine Ev.bind pb ?_
  unfold added stageL
  by_cases q:diskOk a b c d e (l++[stageP d n x i])=true
  ·rw[if_pos q,if_pos q,w64 (x:=(i:Int)+1) (by omega) (by omega)]
   exact ev_pos rfl (ih (i+1) _ (by omega) (hl.next d n x))
  ·rw[if_neg q,if_neg q]
   exact ev_neg (fun q=>by cases q) (Ev.bind (implCopy_ev a b c d e [] (by omega) (by omega) ⟨by simp,fun p hp=>by cases hp⟩) ev_some)
theorem diskOk_d {a b:List Int}{c d e:Int}{l:List S91}(h:diskOk a b c d e l=true):0≤d∧d≤1:=by
 unfold diskOk at h
 rw[Bool.and_eq_true,Bool.and_eq_true] at h
 have:=of_decide_eq_true h.2.1
 omega
theorem stOk_nil :StOk 0 ([]:List S91):=⟨Nat.zero_le _,fun p hp=>by cases hp⟩
theorem specStage_ev (a b:List Int)(c d e:Int)(l:List S91)(x:List Int)(n:Int)(ha:a.length≤1048576)(hb:b.length≤1048576)(hl:PutsOk 1048576 l)(hx:x.length≤1048576):Ev (fun k=>spec_StageAll.f k a b c d e l x n) (stage a b c d e l x n):=by
 unfold spec_StageAll.f stage
 have rg:=blocks_range n x.length
 refine Ev.bind (specCopy_ev a b c d e l (by omega) (by omega) (putsOk_le (by omega) hl)) (Ev.bind (specDiskOk_ev a b c d e l (putsOk_le (by omega) hl)) ?_)
 have bad:Ev (fun k=>spec_StageAll.j0 k x n true a b c d e l a b c d e l) (a,b,c,d,e,l,false):=Ev.step (f:=fun _=>some (a,b,c,d,e,l,false)) (fun k=>rfl) ev_some
 by_cases h1:diskOk a b c d e l=true
 ·refine ev_pos h1 ?_
  by_cases h2:(l.length:Int)>0
  ·rw[if_neg (fun q=>by omega)]
   exact ev_pos h2 bad
  ·refine ev_neg h2 (ev_then (specSizeOk_eq n x.length) ?_)
   obtain rfl:l=[]:=List.eq_nil_of_length_eq_zero (by omega)
   by_cases h3:sizeOk n x.length=true
   ·rw[if_pos ⟨h1,rfl,h3⟩,h3]
    exact Ev.step (f:=fun k=>spec_StageAll.l0 k x n ((0:Nat):Int) a b c d e [] a b c d e []) (fun k=>rfl) (specStage_key a b c d e n x hx (diskOk_d h1) ha hb (blocks n x.length).toNat 0 [] (by omega) stOk_nil)
   ·rw[if_neg (fun q=>h3 q.2.2),Bool.eq_false_iff.2 h3]
    exact bad
 ·rw[if_neg (fun q=>h1 q.1)]
  exact ev_neg h1 bad
theorem implStage_ev (a b:List Int)(c d e:Int)(l:List S91)(x:List Int)(n:Int)(ha:a.length≤1048576)(hb:b.length≤1048576)(hl:PutsOk 1048576 l)(hx:x.length≤1048576):Ev (fun k=>impl_StageAll.f k a b c d e l x n) (stage a b c d e l x n):=by
 unfold impl_StageAll.f stage
 have rg:=blocks_range n x.length
 have cp:=implCopy_ev a b c d e l (by omega) (by omega) (putsOk_le (by omega) hl)
 refine Ev.bind (implDiskOk_ev a b c d e l (putsOk_le (by omega) hl)) ?_
 have bad:Ev (fun k=>impl_StageAll.j0 k x n true a b c d e l) (a,b,c,d,e,l,false):=Ev.step (f:=fun k=>(impl_copyDisk.f k a b c d e l).bind fun t=>some (t.1,t.2.1,t.2.2.1,t.2.2.2.1,t.2.2.2.2.1,t.2.2.2.2.2,false)) (fun k=>rfl) (Ev.bind cp ev_some)
 by_cases h1:diskOk a b c d e l=true
 ·refine ev_pos h1 ?_
  by_cases h2:(l.length:Int)>0
  ·rw[if_neg (fun q=>by omega)]
   exact ev_pos h2 bad
  ·refine ev_neg h2 (ev_then (implSizeOk_eq n x.length) ?_)
   obtain rfl:l=[]:=List.eq_nil_of_length_eq_zero (by omega)
   by_cases h3:sizeOk n x.length=true
   ·rw[if_pos ⟨h1,rfl,h3⟩,h3]
    exact Ev.step (f:=fun k=>(impl_copyDisk.f k a b c d e []).bind fun t=>((impl_Blocks.f n x.length).bind fun u=>impl_StageAll.l0 k x n u 0 a b c d e [] t.1 t.2.1 t.2.2.1 t.2.2.2.1 t.2.2.2.2.1 t.2.2.2.2.2)) (fun k=>rfl) (Ev.bind cp (ev_then (implBlocks_eq n x.length) (implStage_key a b c d e n x hx (diskOk_d h1) ha hb (blocks n x.length).toNat 0 [] (by omega) stOk_nil)))
   ·rw[if_neg (fun q=>h3 q.2.2),Bool.eq_false_iff.2 h3]
    exact bad
 ·rw[if_neg (fun q=>h1 q.1)]
  exact ev_neg h1 bad
theorem stage_len (a b:List Int)(c d e:Int)(l:List S91)(x:List Int)(n:Int){m:Nat}(ha:a.length≤m)(hb:b.length≤m)(hl:PutsOk m l)(hm:4096≤m):(stage a b c d e l x n).1.length≤m∧(stage a b c d e l x n).2.1.length≤m∧PutsOk m (stage a b c d e l x n).2.2.2.2.2.1:=by
 unfold stage
 have rg:=blocks_range n x.length
 split
 ·cases hs:stageL a b c d e n x (blocks n x.length).toNat 0 [] with
  |none=>exact⟨ha,hb,⟨Nat.zero_le _,fun p hp=>by cases hp⟩⟩
  |some l'=>exact⟨ha,hb,putsOk_le hm ((stageL_ok _ 0 [] l' stOk_nil hs).ok (by omega))⟩
 ·exact⟨ha,hb,hl⟩
def padTo (s:List Int)(n:Nat):List Int:=s++List.replicate (n - s.length) 0
theorem padTo_length (s:List Int)(n:Nat):(padTo s n).length=max s.length n:=by
 unfold padTo
 simp only[List.length_append,List.length_replicate]
 omega
theorem padTo_step {s:List Int}{n:Nat}(h:s.length<n):padTo (s++[0]) n=padTo s n:=by
 unfold padTo
 rw[List.append_assoc]
 congr 1
 simp only[List.length_append,List.length_cons,List.length_nil,List.singleton_append]
 rw[show n - s.length=(n - (s.length+1))+1 by omega,List.replicate_succ]
theorem padTo_done {s:List Int}{n:Nat}(h:¬s.length<n):padTo s n=s:=by
 unfold padTo
 rw[show n - s.length=0 by omega,List.replicate_zero,List.append_nil]
def laid (s:List Int)(a:Nat)(b:List Int):List Int:=(padTo s (a+b.length)).take a++(b++(padTo s (a+b.length)).drop (a+b.length))
theorem laid_length (s:List Int)(a:Nat)(b:List Int):(laid s a b).length=max s.length (a+b.length):=by
 unfold laid
 simp only[List.length_append,List.length_take,List.length_drop,padTo_length]
 omega
theorem implPad_ev (n:Nat)(hn:n≤4194304):∀(d:Nat) (s:List Int),n - s.length=d→Ev (fun k=>impl_Disk_perform.l0 k s (n:Int)) (padTo s n):=by
 intro d
 induction d with
 |zero=>
  intro s h
  exact Ev.step (fun k=>rfl) (ev_neg (by omega) (ev_eq ev_some (padTo_done (by omega)).symm))
 |succ d ih=>
  intro s h
  refine Ev.step (fun k=>rfl) (ev_pos (by omega) (ev_pos (by omega) ?_))
  have:=ih (s++[0]) (by simp only[List.length_append,List.length_cons,List.length_nil];omega)
  rwa [padTo_step (by omega)] at this
theorem specLay1 (a:Nat):∀(t pre u v:List Int),t.length≤v.length→u.length=a+pre.length→u.length+v.length≤8388608→
  Ev (fun k=>spec_l9Lay.l1 k (a:Int) (pre++t) (u++v) (pre.length:Int)) (u++(t++v.drop t.length)):=by
 intro t
 induction t with
 |nil=>
  intro pre u v _ _ _
  exact Ev.step (fun k=>rfl) (ev_neg (by simp) (ev_eq ev_some (by simp)))
 | cons c t ih=>
  intro pre u v hv hu hl
  cases v with
  |nil=>simp only[List.length_nil,List.length_cons] at hv;omega
  | cons z v=>
   simp only[List.length_cons] at hv hl
   refine Ev.step (fun k=>rfl) (ev_pos (by simp only[List.length_append,List.length_cons];omega) (ev_pos (by omega) ?_))
   rw[w64 (x:=(a:Int)+(pre.length:Int)) (by omega) (by omega),w64 (x:=(pre.length:Int)+1) (by omega) (by omega)]
   refine ev_pos (by omega) (ev_pos (by simp only[List.length_append,List.length_cons];omega) ?_)
   have e1:rd (pre++c :: t) (pre.length:Int)=c:=by
    unfold rd
    rw[Int.toNat_natCast,List.getD_eq_getElem?_getD,List.getElem?_append_right (Nat.le_refl _),Nat.sub_self]
    rfl
   have e2:(u++z :: v).set ((a:Int)+(pre.length:Int)).toNat c=u++c :: v:=by
    rw[show((a:Int)+(pre.length:Int)).toNat=u.length by omega,List.set_append_right (h:=Nat.le_refl _),Nat.sub_self]
    rfl
   rw[e1,e2]
   have:=ih (pre++[c]) (u++[c]) v (by omega) (by simp only[List.length_append,List.length_cons,List.length_nil];omega) (by simp only[List.length_append,List.length_cons,List.length_nil];omega)
   simp only[List.append_assoc,List.singleton_append,List.length_append,List.length_cons,List.length_nil] at this
   simpa using this
theorem specLay0 (a:Nat)(b:List Int)(hn:a+b.length≤4194304):∀(d:Nat) (s:List Int),(a+b.length) - s.length=d→s.length≤4194304→Ev (fun k=>spec_l9Lay.l0 k (a:Int) b s) (laid s a b):=by
 intro d
 induction d with
 |zero=>
  intro s h hs
  refine Ev.step (fun k=>rfl) ?_
  have hw:=w64 (x:=(a:Int)+(b.length:Int)) (by omega) (by omega)
  refine ev_neg (by rw[hw];omega) ?_
  have:=specLay1 a b [] (s.take a) (s.drop a) (by simp only[List.length_drop];omega) (by simp only[List.length_take,List.length_nil];omega) (by simp only[List.length_take,List.length_drop];omega)
  rw[List.take_append_drop,List.drop_drop] at this
  unfold laid
  rw[padTo_done (by omega)]
  exact this
 |succ d ih=>
  intro s h hs
  refine Ev.step (fun k=>rfl) ?_
  have hw:=w64 (x:=(a:Int)+(b.length:Int)) (by omega) (by omega)
  refine ev_pos (by rw[hw];omega) (ev_pos (by omega) ?_)
  have:=ih (s++[0]) (by simp only[List.length_append,List.length_cons,List.length_nil];omega) (by simp only[List.length_append,List.length_cons,List.length_nil];omega)
  unfold laid at this ⊢
  rwa [padTo_step (by omega)] at this
theorem specLay_ev (s:List Int)(a:Int)(b:List Int)(h0:0≤a)(hn:a+b.length≤4194304)(hs:s.length≤4194304):Ev (fun k=>spec_l9Lay.f k s a b) (laid s a.toNat b):=by
 unfold spec_l9Lay.f
 refine ev_then rfl (ev_pos (by simp only[List.length_nil];omega) ?_)
 have:=specLay0 a.toNat b (by omega) _ s rfl hs
 rwa [Int.toNat_of_nonneg h0] at this
theorem implLay_ev (s:List Int)(a:Int)(b:List Int)(h0:0≤a)(hn:a+b.length≤4194304):Ev (fun k=>(impl_Disk_perform.l0 k s (wrap64 (a+b.length))).bind fun x=>cut_ x a b) (laid s a.toNat b):=by
 rw[w64 (by omega) (by omega)]
 have h:=implPad_ev (a.toNat+b.length) (by omega) _ s rfl
 rw[show(((a.toNat+b.length:Nat)):Int)=a+b.length by omega] at h
 refine Ev.bind h (ev_of ?_)
 have hl:=padTo_length s (a.toNat+b.length)
 unfold cut_
 rw[if_pos (by omega)]
 unfold laid
 rw[List.append_assoc]
theorem putOk_at {p:S91}(h:putOk p=true)(h2:¬p.f0=2):0≤p.f0∧p.f0≤1∧0≤p.f1∧p.f1+p.f2.length≤240:=by
 unfold putOk at h
 rw[if_neg h2] at h
 have:=of_decide_eq_true h
 exact⟨this.1,this.2.1,this.2.2.1,this.2.2.2.1⟩
def done (a b:List Int)(c d e:Int)(p:S91):List Int×List Int×Int×Int×Int:=
 if p.f0=2 then (a,b,p.f3.f0,p.f3.f1,p.f3.f2) else if p.f0=0 then (laid a p.f1.toNat p.f2,b,c,d,e) else (a,laid b p.f1.toNat p.f2,c,d,e)
theorem done_len {a b:List Int}{c d e:Int}{p:S91}{n:Nat}(hp:putOk p=true)(ha:a.length≤n)(hb:b.length≤n)(hn:240≤n):(done a b c d e p).1.length≤n∧(done a b c d e p).2.1.length≤n:=by
 unfold done
 by_cases h2:p.f0=2
 ·rw[if_pos h2];exact⟨ha,hb⟩
 rw[if_neg h2]
 have:=putOk_at hp h2
 split
 ·exact⟨by simp only[laid_length];omega,hb⟩
 ·exact⟨ha,by simp only[laid_length];omega⟩
def onePut (a b:List Int)(c d e:Int)(l:List S91)(p:S91):List Int×List Int×Int×Int×Int×List S91:=
 if putOk p=true then ((done a b c d e p).1,(done a b c d e p).2.1,(done a b c d e p).2.2.1,(done a b c d e p).2.2.2.1,(done a b c d e p).2.2.2.2,l) else (a,b,c,d,e,l)
theorem implPerform_ev (a b:List Int)(c d e:Int)(p:S91)(hp:putOk p=true):Ev (fun k=>impl_Disk_perform.f k a b c d e p.f0 p.f1 p.f2 p.f3.f0 p.f3.f1 p.f3.f2) (done a b c d e p):=by
 unfold impl_Disk_perform.f done
 by_cases h2:p.f0=2
 ·exact ev_pos h2 (ev_eq ev_some (by rw[if_pos h2]))
 have h:=putOk_at hp h2
 refine ev_neg h2 ?_
 rw[if_neg h2]
 by_cases h0:p.f0=0
 ·refine ev_pos h0 ?_
  rw[if_pos h0]
  have q:=implLay_ev a p.f1 p.f2 h.2.2.1 (by omega)
  refine Ev.congr (fun k=>?_) (Ev.bind (f:=fun _ y=>some (y,b,c,d,e)) q ev_some)
  exact(Option.bind_assoc ..).symm
 ·refine ev_neg h0 ?_
  rw[if_neg h0]
  have q:=implLay_ev b p.f1 p.f2 h.2.2.1 (by omega)
  refine Ev.congr (fun k=>?_) (Ev.bind (f:=fun _ y=>some (a,y,c,d,e)) q ev_some)
  exact(Option.bind_assoc ..).symm
theorem specOnePut_ev (a b:List Int)(c d e:Int)(l:List S91)(p:S91)(ha:a.length≤4194304)(hb:b.length≤4194304)(hl:PutsOk 4194304 l)(hp:p.f2.length≤4194304):
  Ev (fun k=>spec_OnePut.f k a b c d e l p.f0 p.f1 p.f2 p.f3.f0 p.f3.f1 p.f3.f2) (onePut a b c d e l p):=by
 unfold spec_OnePut.f onePut
 refine Ev.bind (specCopy_ev a b c d e l ha hb hl) (ev_then (specPut_eq p (by omega)) (ev_if (fun h=>?_) (fun h=>ev_eq ev_some (by rw[if_neg h]))))
 rw[if_pos h]
 unfold done
 by_cases h2:p.f0=2
 ·rw[if_pos h2]
  exact ev_neg (by omega) (ev_neg (by omega) ev_some)
 rw[if_neg h2]
 have q:=putOk_at h h2
 by_cases h0:p.f0=0
 ·rw[if_pos h0]
  exact ev_pos h0 (Ev.bind (specLay_ev a p.f1 p.f2 q.2.2.1 (by omega) ha) ev_some)
 ·rw[if_neg h0]
  exact ev_neg h0 (ev_pos (by omega) (Ev.bind (specLay_ev b p.f1 p.f2 q.2.2.1 (by omega) hb) ev_some))
abbrev Dsk5 :Type:=List Int×List Int×Int×Int×Int
def step5 (q:Bool)(s:Dsk5)(p:S91):Dsk5:=if q=true then done s.1 s.2.1 s.2.2.1 s.2.2.2.1 s.2.2.2.2 p else s
def settleL (keep:Int→Bool):List S91→Int→Dsk5→Dsk5
 |[],_,s=>s
 |p :: t,i,s=>settleL keep t (i+1) (step5 (keep i) s p)
def settle (keep:Int→Bool)(a b:List Int)(c d e:Int)(l:List S91):List Int×List Int×Int×Int×Int×List S91:=
 if diskOk a b c d e l=true then ((settleL keep l 0 (a,b,c,d,e)).1,(settleL keep l 0 (a,b,c,d,e)).2.1,(settleL keep l 0 (a,b,c,d,e)).2.2.1,(settleL keep l 0 (a,b,c,d,e)).2.2.2.1,(settleL keep l 0 (a,b,c,d,e)).2.2.2.2,[]) else (a,b,c,d,e,l)
theorem diskOk_all {a b:List Int}{c d e:Int}{l:List S91}(h:diskOk a b c d e l=true):∀p ∈ l,putOk p=true:=by
 unfold diskOk at h
 rw[Bool.and_eq_true,Bool.and_eq_true] at h
 have h3:=h.2.2
 unfold putsOk at h3
 rw[List.all_eq_true] at h3
 intro p hp
 obtain⟨i,hi,rfl⟩:=List.getElem_of_mem hp
 have:=h3 i (List.mem_range.2 hi)
 rwa [List.getD_eq_getElem?_getD,List.getElem?_eq_getElem hi] at this
theorem step5_len {q:Bool}{s:Dsk5}{p:S91}{n:Nat}(hp:putOk p=true)(ha:s.1.length≤n)(hb:s.2.1.length≤n)(hn:240≤n):(step5 q s p).1.length≤n∧(step5 q s p).2.1.length≤n:=by
 unfold step5
 split
 ·exact done_len hp ha hb hn
 ·exact⟨ha,hb⟩
theorem settleL_len {n:Nat}(hn:240≤n)(keep:Int→Bool):∀(t:List S91) (i:Int) (s:Dsk5),(∀p ∈ t,putOk p=true)→s.1.length≤n→s.2.1.length≤n→(settleL keep t i s).1.length≤n∧(settleL keep t i s).2.1.length≤n
 |[],_,_,_,ha,hb=>⟨ha,hb⟩
 |p :: t,i,s,h,ha,hb=>by
  have q:=step5_len (q:=keep i) (h p (List.mem_cons_self ..)) ha hb hn
  exact settleL_len hn keep t (i+1) _ (fun x hx=>h x (List.mem_cons_of_mem _ hx)) q.1 q.2
theorem settle_len (keep:Int→Bool)(a b:List Int)(c d e:Int)(l:List S91){n:Nat}(ha:a.length≤n)(hb:b.length≤n)(hl:PutsOk n l)(hn:240≤n):(settle keep a b c d e l).1.length≤n∧(settle keep a b c d e l).2.1.length≤n∧PutsOk n (settle keep a b c d e l).2.2.2.2.2:=by
 unfold settle
 split
 ·rename_i h
  have q:=settleL_len hn keep l 0 (a,b,c,d,e) (diskOk_all h) ha hb
  exact⟨q.1,q.2,⟨Nat.zero_le _,fun p hp=>by cases hp⟩⟩
 ·exact⟨ha,hb,hl⟩
theorem implSettled_key (keepI:Nat→Int→Option Bool)(keep:Int→Bool)(hk:∀i,Ev (fun k=>keepI k i) (keep i)):∀(t pre:List S91) (s:Dsk5),(∀p ∈ t,putOk p=true)→pre.length+t.length≤4194304→
  Ev (fun k=>impl_Disk_settled.l0 k keepI (pre++t) (pre.length:Int) s.1 s.2.1 s.2.2.1 s.2.2.2.1 s.2.2.2.2) (settleL keep t (pre.length:Int) s):=by
 intro t
 induction t with
 |nil=>
  intro pre s _ _
  exact Ev.step (fun k=>rfl) (ev_neg (by simp) (ev_eq ev_some rfl))
 | cons p t ih=>
  intro pre s hp hl
  simp only[List.length_cons] at hl
  refine Ev.step (fun k=>rfl) (ev_pos (by simp only[List.length_append,List.length_cons];omega) (ev_pos (by omega) ?_))
  simp only[rd_midp]
  have next:=ih (pre++[p]) (step5 (keep (pre.length:Int)) s p) (fun q hq=>hp q (List.mem_cons_of_mem _ hq)) (by simp only[List.length_append,List.length_cons,List.length_nil];omega)
  simp only[List.append_assoc,List.singleton_append,List.length_append,List.length_cons,List.length_nil] at next
  rw[w64 (x:=(pre.length:Int)+1) (by omega) (by omega)]
  refine Ev.bind (hk _) ?_
  unfold settleL
  cases hq:keep (pre.length:Int) with
  |true=>
   rw[hq] at next
   exact ev_true (Ev.bind (implPerform_ev s.1 s.2.1 s.2.2.1 s.2.2.2.1 s.2.2.2.2 p (hp p (List.mem_cons_self ..))) next)
  |false=>
   rw[hq] at next
   exact ev_false next
theorem implSettled_ev (keepI:Nat→Int→Option Bool)(keep:Int→Bool)(hk:∀i,Ev (fun k=>keepI k i) (keep i))(a b:List Int)(c d e:Int)(l:List S91)(ha:a.length≤4194304)(hb:b.length≤4194304)(hl:PutsOk 4194304 l):Ev (fun k=>impl_Disk_settled.f k keepI a b c d e l) (settle keep a b c d e l):=by
 unfold impl_Disk_settled.f settle
 refine Ev.bind (implCopy_ev a b c d e l ha hb hl) (Ev.bind (implDiskOk_ev a b c d e l hl) (ev_if (fun h=>?_) (fun h=>ev_eq ev_some (by rw[if_neg h]))))
 rw[if_pos h]
 exact Ev.bind (implSettled_key keepI keep hk l [] (a,b,c,d,e) (diskOk_all h) (by simpa using hl.1)) ev_some
theorem specSure_key (A B:List Int)(C D E:Int)(L:List S91)(hL:PutsOk 4194304 L):∀(t pre:List S91) (s:Dsk5),(∀p ∈ t,putOk p=true∧p.f2.length≤4194304)→pre.length+t.length≤4194304→s.1.length≤4194304→s.2.1.length≤4194304→
  Ev (fun k=>spec_Sure.l0 k (pre.length:Int) A B C D E (pre++t) s.1 s.2.1 s.2.2.1 s.2.2.2.1 s.2.2.2.2 L) ((settleL (fun _=>true) t (pre.length:Int) s).1,(settleL (fun _=>true) t (pre.length:Int) s).2.1,(settleL (fun _=>true) t (pre.length:Int) s).2.2.1,(settleL (fun _=>true) t (pre.length:Int) s).2.2.2.1,(settleL (fun _=>true) t (pre.length:Int) s).2.2.2.2,[]):=by
 intro t
 induction t with
 |nil=>
  intro pre s _ _ _ _
  exact Ev.step (fun k=>rfl) (ev_neg (by simp) (ev_eq ev_some rfl))
 |cons p t ih=>
  intro pre s hp hl ha hb
  simp only[List.length_cons] at hl
  have h0:=hp p (List.mem_cons_self ..)
  refine Ev.step (fun k=>rfl) (ev_pos (by simp only[List.length_append,List.length_cons];omega) (ev_pos (by omega) ?_))
  simp only[rd_midp]
  rw[w64 (x:=(pre.length:Int)+1) (by omega) (by omega)]
  have q:=step5_len (q:=true) (s:=s) h0.1 ha hb (by omega)
  have next:=ih (pre++[p]) (step5 true s p) (fun q hq=>hp q (List.mem_cons_of_mem _ hq)) (by simp only[List.length_append,List.length_cons,List.length_nil];omega) q.1 q.2
  simp only[List.append_assoc,List.singleton_append,List.length_append,List.length_cons,List.length_nil] at next
  refine Ev.bind (specOnePut_ev s.1 s.2.1 s.2.2.1 s.2.2.2.1 s.2.2.2.2 L p ha hb hL h0.2) ?_
  unfold onePut
  rw[if_pos h0.1]
  exact next
def sure (a b:List Int)(c d e:Int)(l:List S91):List Int×List Int×Int×Int×Int×List S91:=settle (fun _=>true) a b c d e l
theorem specSure_ev (a b:List Int)(c d e:Int)(l:List S91)(ha:a.length≤4194304)(hb:b.length≤4194304)(hl:PutsOk 4194304 l):Ev (fun k=>spec_Sure.f k a b c d e l) (sure a b c d e l):=by
 unfold spec_Sure.f sure settle
 refine Ev.bind (specCopy_ev a b c d e l ha hb hl) (Ev.bind (specDiskOk_ev a b c d e l hl) (ev_if (fun h=>?_) (fun h=>ev_eq ev_some (by rw[if_neg h]))))
 rw[if_pos h]
 exact specSure_key a b c d e l hl l [] (a,b,c,d,e) (fun p hp=>⟨diskOk_all h p hp,hl.2 p hp⟩) (by simpa using hl.1) ha hb
theorem implSure_ev (a b:List Int)(c d e:Int)(l:List S91)(ha:a.length≤4194304)(hb:b.length≤4194304)(hl:PutsOk 4194304 l):Ev (fun k=>impl_Sure.f k a b c d e l) (sure a b c d e l):=by
 unfold impl_Sure.f sure
 exact implSettled_ev (fun _ _=>some true) (fun _=>true) (fun _=>ev_some) a b c d e l ha hb hl
def putRecord (a b:List Int)(c d e:Int)(l:List S91)(x y z:Int):List Int×List Int×Int×Int×Int×List S91×Bool:=added a b c d e l ⟨2,0,[],⟨x,y,z⟩⟩
theorem specPutRecord_ev (a b:List Int)(c d e:Int)(l:List S91)(x y z:Int)(ha:a.length≤1048576)(hb:b.length≤1048576)(hl:PutsOk 1048576 l):Ev (fun k=>spec_PutRecord.f k a b c d e l x y z) (putRecord a b c d e l x y z):=by
 unfold spec_PutRecord.f putRecord
 exact Ev.bind (specAdd_ev a b c d e l ⟨2,0,[],⟨x,y,z⟩⟩ ha hb hl (by simp)) ev_some
theorem implPutRecord_ev (a b:List Int)(c d e:Int)(l:List S91)(x y z:Int)(ha:a.length≤1048576)(hb:b.length≤1048576)(hl:PutsOk 1048576 l):Ev (fun k=>impl_PutRecord.f k a b c d e l x y z) (putRecord a b c d e l x y z):=by
 unfold impl_PutRecord.f putRecord
 exact Ev.bind (implAdd_ev a b c d e l ⟨2,0,[],⟨x,y,z⟩⟩ ha hb hl (by simp)) ev_some
theorem wraps_i64 (n:Int)(h0:0≤n)(h1:n<2 ^ 63):IntKind.i64.wrap n=n:=by rw[IntKind.wrap_i64];omega
theorem and_mask (n:Int)(j m:Nat)(hj:j≤62)(hm:m=2 ^ j - 1):bits .and .i64 n (m:Int)=n % (2 ^ j:Nat):=by
 have hp:(2:Nat) ^ j≤2 ^ 62:=Nat.pow_le_pow_right (by decide) hj
 have hpos:0<2 ^ j:=Nat.two_pow_pos j
 have hmm:(BitVec.ofInt 64 (m:Int)).toNat=2 ^ j - 1:=by
  rw[BitVec.ofInt_natCast,BitVec.toNat_ofNat,hm,Nat.mod_eq_of_lt]
  have:(2:Nat) ^ 62<2 ^ 64:=by decide
  omega
 have key:(BitVec.ofInt 64 n&&& BitVec.ofInt 64 (m:Int)).toNat=(n % ((2 ^ 64:Nat):Int)).toNat % 2 ^ j:=by
  rw[BitVec.toNat_and,BitVec.toNat_ofInt,hmm,Nat.and_two_pow_sub_one_eq_mod]
 show IntKind.i64.wrap ((BitVec.ofInt 64 n&&& BitVec.ofInt 64 (m:Int)).toNat:Nat)=_
 rw[key,IntKind.wrap_i64]
 have hd:((2 ^ j:Nat):Int) ∣((2 ^ 64:Nat):Int):=by
  have:(2 ^ j:Nat) ∣2 ^ 64:=Nat.pow_dvd_pow 2 (by omega)
  exact Int.natCast_dvd_natCast.2 this
 have e0:0≤n % ((2 ^ 64:Nat):Int):=Int.emod_nonneg _ (by decide)
 have e1:(((n % ((2 ^ 64:Nat):Int)).toNat % 2 ^ j:Nat):Int)=n % ((2 ^ j:Nat):Int):=by
  rw[Int.natCast_emod,Int.toNat_of_nonneg e0,Int.emod_emod_of_dvd _ hd]
 rw[e1]
 have b0:0≤n % ((2 ^ j:Nat):Int):=Int.emod_nonneg _ (by omega)
 have b1:n % ((2 ^ j:Nat):Int)<((2 ^ j:Nat):Int):=Int.emod_lt_of_pos _ (by omega)
 have b2:((2 ^ j:Nat):Int)≤((2 ^ 62:Nat):Int):=Int.ofNat_le.2 hp
 have b3:((2 ^ 62:Nat):Int)=4611686018427387904:=by decide
 omega
theorem and255 (n:Int):bits .and .i64 n 255=n % 256:=and_mask n 8 255 (by decide) (by decide)
theorem or_nat (a b:Nat)(ha:a<2 ^ 63)(hb:b<2 ^ 63):bits .or .i64 (a:Int) (b:Int)=((a|||b:Nat):Int):=(bits_nat .i64 63 (by decide) wraps_i64 a b ha hb).2
theorem iter_foldl {α σ:Type}(f:σ→α→σ)(l:List α)(d:α)(s0:σ)(n:Nat)(hn:n≤l.length):iter n (fun i s=>f s (l.getD i d)) s0=(l.take n).foldl f s0:=by
 induction n with
 |zero=>simp [iter_zero]
 |succ n ih=>
  rw[iter_succ,ih (by omega),List.take_succ_eq_append_getElem (by omega),List.foldl_append]
  simp [List.getD_eq_getElem?_getD,(show n<l.length by omega)]
theorem iter_foldl_all {α σ:Type}(f:σ→α→σ)(l:List α)(d:α)(s0:σ):iter l.length (fun i s=>f s (l.getD i d)) s0=l.foldl f s0:=by
 rw[iter_foldl f l d s0 l.length (Nat.le_refl _),List.take_length]
def Bytes (l:List Int):Prop:=∀x ∈ l,0≤x∧x≤255
theorem bytes_getD {l:List Int}(h:Bytes l)(i:Nat):0≤l.getD i 0∧l.getD i 0≤255:=by
 rw[List.getD_eq_getElem?_getD]
 by_cases q:i<l.length
 ·simp only[q,List.getElem?_eq_getElem,Option.getD_some]
  exact h _ (List.getElem_mem q)
 ·simp [q]
def weakStep (p:Int×Int)(b:Int):Int×Int:=((p.1+b) % 251,(p.2+(p.1+b) % 251) % 251)
def weakPair (l:List Int):Int×Int:=l.foldl weakStep (0,0)
def weakOf (l:List Int):Int:=(weakPair l).1+251 * (weakPair l).2
def WeakIn (p:Int×Int):Prop:=0≤p.1∧p.1<251∧0≤p.2∧p.2<251
theorem weakStep_in (p:Int×Int)(b:Int):WeakIn (weakStep p b):=by
 unfold WeakIn weakStep
 simp only
 omega
theorem weak_step (x y b:Int)(h:WeakIn (x,y))(hb:0≤b∧b≤255):Int.tmod (wrap64 (x+(wrap64 b))) 251=(weakStep (x,y) b).1∧Int.tmod (wrap64 (y+(Int.tmod (wrap64 (x+(wrap64 b))) 251))) 251=(weakStep (x,y) b).2:=by
 unfold WeakIn at h
 simp only at h
 have e1:Int.tmod (wrap64 (x+(wrap64 b))) 251=(x+b) % 251:=by
  rw[w64 (x:=b) (by omega) (by omega),w64 (x:=x+b) (by omega) (by omega),Int.tmod_eq_emod_of_nonneg (by omega)]
 rw[e1]
 refine⟨rfl,?_⟩
 rw[w64 (by omega) (by omega),Int.tmod_eq_emod_of_nonneg (by omega)]
 rfl
theorem specWeakOf_ev (l:List Int)(hl:l.length≤1048576)(hb:Bytes l):Ev (fun k=>spec_WeakOf.f k l) (weakOf l):=by
 unfold spec_WeakOf.f
 refine loop_up (σ:=Int×Int) (fun k s i=>spec_WeakOf.l0 k l s.1 s.2 i) l.length (fun i s=>weakStep s (l.getD i 0)) (fun i s=>WeakIn s) (0,0) _ (by simp [WeakIn]) (fun i s _ _=>weakStep_in _ _) ?_ ?_
 ·rintro i ⟨x,y⟩ r hi hs h
  refine Ev.step (fun k=>rfl) ?_
  refine ev_pos (by omega) (ev_pos (by omega) ?_)
  have e:=weak_step x y (l.getD i 0) hs (bytes_getD hb i)
  simp only[rd,Int.toNat_natCast]
  rw[e.1,← e.1,e.2,e.1,w64 (x:=(i:Int)+1) (by omega) (by omega)]
  exact h
 ·intro hs
  refine Ev.step (fun k=>rfl) ?_
  refine ev_neg (by omega) (ev_eq ev_some ?_)
  rw[iter_foldl_all weakStep l 0 (0,0)] at hs ⊢
  unfold WeakIn at hs
  rw[w64 (x:=251 * _) (by omega) (by omega),w64 (by omega) (by omega)]
  rfl
theorem implWeakOf_ev (l:List Int)(hl:l.length≤1048576)(hb:Bytes l):Ev (fun k=>impl_WeakOf.f k l) (weakOf l):=by
 unfold impl_WeakOf.f
 refine loop_up (σ:=Int×Int) (fun k s i=>impl_WeakOf.l0 k s.1 s.2 l (l.length:Int) i) l.length (fun i s=>weakStep s (l.getD i 0)) (fun i s=>WeakIn s) (0,0) _ (by simp [WeakIn]) (fun i s _ _=>weakStep_in _ _) ?_ ?_
 ·rintro i ⟨x,y⟩ r hi hs h
  refine Ev.step (fun k=>rfl) ?_
  refine ev_pos (by omega) (ev_pos (by omega) (ev_pos (by omega) ?_))
  have e:=weak_step x y (l.getD i 0) hs (bytes_getD hb i)
  simp only[rd,Int.toNat_natCast]
  rw[e.1,← e.1,e.2,e.1,w64 (x:=(i:Int)+1) (by omega) (by omega)]
  exact h
 ·intro hs
  refine Ev.step (fun k=>rfl) ?_
  refine ev_neg (by omega) ?_
  rw[iter_foldl_all weakStep l 0 (0,0)] at hs ⊢
  unfold WeakIn at hs
  have wr:∀x:Int,0≤x→x<251→impl_Wrap.f x 251=some x:=by
   intro x h0 h1
   unfold impl_Wrap.f
   rw[within_eq]
   simp only[Option.bind_some]
   rw[if_pos (by decide),if_neg (by decide),Int.tmod_eq_emod_of_nonneg h0,w64 (by omega) (by omega),Int.tmod_eq_emod_of_nonneg (by omega)]
   congr 1
   omega
  have e:impl_weak.f (List.foldl weakStep (0,0) l).1 (List.foldl weakStep (0,0) l).2=some (weakOf l):=by
   unfold impl_weak.f
   rw[wr _ hs.1 hs.2.1,wr _ hs.2.2.1 hs.2.2.2]
   simp only[Option.bind_some]
   rw[w64 (x:=251 * _) (by omega) (by omega),w64 (by omega) (by omega)]
   rfl
  exact ev_then e ev_some
open Go.Proofs.YtjgmkkogmfogbaaGreatW.PrintMore
theorem shr_of (x y:Int)(h1:y≤64):shr .i64 x y=x / 2 ^ y.toNat:=by
 unfold shr
 rw[Nat.min_eq_left (by simp [IntKind.bits];omega)]
def digs :Nat→Int→List Int
 |0,_=>[]
 |c+1,x=>digs c (x / 256)++[x % 256]
theorem digs_length (c:Nat):∀x,(digs c x).length=c:=by
 induction c with
 |zero=>intro x;rfl
 |succ c ih=>intro x;simp [digs,ih]
theorem digs_bytes (c:Nat):∀x,Bytes (digs c x):=by
 induction c with
 |zero=>intro x;simp [digs,Bytes]
 |succ c ih=>
  intro x y hy
  rw[digs,List.mem_append,List.mem_singleton] at hy
  rcases hy with hy|rfl
  ·exact ih _ y hy
  ·omega
theorem pow256_succ (c:Nat):(256:Int) ^ (c+1)=256 * 256 ^ c:=by rw[Int.pow_succ,Int.mul_comm]
theorem div256 (x:Int)(c:Nat):x / 256 ^ (c+1)=x / 256 / 256 ^ c:=by
 rw[pow256_succ,Int.ediv_ediv_of_nonneg (by decide)]
theorem digs_map (c:Nat):∀x,digs c x=(List.range c).map (fun i=>x / 256 ^ (c - 1 - i) % 256):=by
 induction c with
 |zero=>intro x;rfl
 | succ c ih=>
  intro x
  rw[digs,ih,List.range_succ,List.map_append,List.map_singleton]
  congr 1
  ·apply List.map_congr_left
   intro i hi
   have hi':=List.mem_range.1 hi
   rw[show c+1 - 1 - i=(c - 1 - i)+1 by omega,div256]
  ·simp
theorem p256_0 :(256:Int) ^ 0=1:=by decide
theorem p256_1 :(256:Int) ^ 1=256:=by decide
theorem p256_2 :(256:Int) ^ 2=65536:=by decide
theorem p256_3 :(256:Int) ^ 3=16777216:=by decide
theorem p256_4 :(256:Int) ^ 4=4294967296:=by decide
theorem p256_5 :(256:Int) ^ 5=1099511627776:=by decide
theorem p256_6 :(256:Int) ^ 6=281474976710656:=by decide
def cnt (x:Int):Nat:=if x≤1 then 0 else if x / 256≤1 then 1 else if x / 65536≤1 then 2 else if x / 16777216≤1 then 3 else if x / 4294967296≤1 then 4 else if x / 1099511627776≤1 then 5 else 6
def bytesOf (x:Int):List Int×Bool:=if 1≤x∧x / 256 ^ (cnt x)=1 then (digs (cnt x) x,true) else ([],false)
theorem cnt_le (x:Int):cnt x≤6:=by
 unfold cnt
 repeat' split
 all_goals omega
theorem bytesOf_bytes (x:Int):Bytes (bytesOf x).1:=by
 unfold bytesOf
 split
 ·exact digs_bytes _ _
 ·simp [Bytes]
theorem bytesOf_length (x:Int):(bytesOf x).1.length≤6:=by
 unfold bytesOf
 split
 ·simp only[digs_length];exact cnt_le x
 ·simp
theorem specBytes_yes (c:Nat):∀(x:Int) (acc:List Int),x / 256 ^ c=1→1≤x→c+acc.length≤1000→Ev (fun k=>spec_BytesOf.l0 k x acc) (digs c x++acc,true):=by
 induction c with
 |zero=>
  intro x acc h hx hl
  have e:x=1:=by simpa using h
  subst e
  refine Ev.step (fun k=>rfl) ?_
  exact ev_neg (by omega) (ev_eq ev_some rfl)
 | succ c ih=>
  intro x acc h hx hl
  rw[div256] at h
  have hp:(0:Int)<256 ^ c:=Int.pow_pos (by decide)
  have hge:1≤x / 256:=by
   by_cases q:1≤x / 256
   ·exact q
   ·have z:x / 256=0:=by omega
    rw[z,Int.zero_ediv] at h
    omega
  refine Ev.step (fun k=>rfl) ?_
  refine ev_pos (by omega) (ev_neg (by omega) ?_)
  simp only[Option.bind_some]
  refine ev_pos (by simp only[List.length_cons,List.length_nil];omega) ?_
  have r:=ih (x / 256) ([(Go.bits .and .i64 x 255) % 256]++acc) h hge (by simp;omega)
  rw[and255,Int.emod_emod_of_dvd _ (by decide)] at r ⊢
  rw[digs,List.append_assoc]
  exact r
theorem specBytes_no (m:Nat):∀(x:Int) (acc:List Int),1≤x→x<2 * 256 ^ m→(∀c,c≤m→x / 256 ^ c≠1)→m+acc.length≤1000→Ev (fun k=>spec_BytesOf.l0 k x acc) ([],false):=by
 induction m with
 |zero=>
  intro x acc hx hm hc hl
  exact absurd (show x / 256 ^ 0=1 by simp at hm ⊢;omega) (hc 0 (by omega))
 |succ m ih=>
  intro x acc hx hm hc hl
  have h1:x≠1:=by have:=hc 0 (by omega);simpa using this
  refine Ev.step (fun k=>rfl) ?_
  refine ev_pos (by omega) ?_
  refine ev_if (fun _=>ev_some) (fun hge=>?_)
  simp only[Option.bind_some]
  refine ev_pos (by simp only[List.length_cons,List.length_nil];omega) ?_
  refine ih (x / 256) _ (by omega) ?_ (fun c h=>by rw[← div256];exact hc (c+1) (by omega)) (by simp;omega)
  rw[pow256_succ] at hm
  generalize (256:Int) ^ m=p at hm ⊢
  omega
theorem cnt_iff (x:Int)(hx:1≤x)(h:x≤562949953421311)(c:Nat)(hc:c≤6)(e:x / 256 ^ c=1):cnt x=c:=by
 unfold cnt
 rcases (show c=0∨c=1∨c=2∨c=3∨c=4∨c=5∨c=6 by omega) with rfl|rfl|rfl|rfl|rfl|rfl|rfl<;>simp only[p256_0,p256_1,p256_2,p256_3,p256_4,p256_5,p256_6,Int.ediv_one] at e<;>(repeat' split)<;>omega
theorem specBytesOf_ev (x:Int):Ev (fun k=>spec_BytesOf.f k x) (bytesOf x):=by
 unfold spec_BytesOf.f
 rw[l1In_eq]
 simp only[Option.bind_some]
 refine ev_if (fun h=>?_) (fun h=>ev_eq ev_some ?_)
 ·have h':1≤x∧x≤562949953421311:=by simpa using h
  unfold bytesOf
  by_cases q:x / 256 ^ (cnt x)=1
  ·rw[if_pos ⟨h'.1,q⟩]
   exact ev_eq (specBytes_yes (cnt x) x [] q h'.1 (by have:=cnt_le x;simp;omega)) (by simp)
  ·rw[if_neg (fun z=>q z.2)]
   refine specBytes_no 6 x [] h'.1 (by rw[p256_6];omega) (fun c hc e=>?_) (by simp)
   rw[cnt_iff x h'.1 h'.2 c hc e] at q
   exact q e
 ·have h':¬(1≤x∧x≤562949953421311):=by simpa using h
  unfold bytesOf
  rw[if_neg]
  rintro⟨h1,h2⟩
  have:cnt x=6:=by
   unfold cnt
   repeat' split
   all_goals omega
  rw[this] at h2
  rw[p256_6] at h2
  omega
theorem shr_pow (x:Int)(c:Nat)(hc:c≤6):shr .i64 x (wrap64 (8 * (c:Int)))=x / 256 ^ c:=by
 rw[w64 (by omega) (by omega),shr_of _ _ (by omega),show(8 * (c:Int)).toNat=8 * c by omega,Int.pow_mul]
 rfl
theorem implBytes_tail (x:Int)(c:Nat)(hc:c≤6)(hx:c=cnt x):Ev (fun k=>impl_BytesOf.j1 k x (c:Int)) (bytesOf x):=by
 have fin:Ev (fun k=>impl_BytesOf.j2 k x (c:Int) false) (digs c x,true):=by
  refine Ev.step (fun k=>rfl) ?_
  refine ev_pos (by omega) ?_
  simp only[Option.bind_some,Int.toNat_natCast]
  refine loop_up (fun k s i=>impl_BytesOf.l1 k x (c:Int) s (((List.replicate c (0:Int)).length:Nat):Int) i) c (fun i (s:List Int)=>s.set i (x / 256 ^ (c - 1 - i) % 256)) (fun _ s=>s.length=c) (List.replicate c 0) _ (by simp) (fun i s _ h=>by simpa using h) ?_ ?_
  ·intro i s r hi hs h
   have e:(c:Int) - 1 - (i:Int)=((c - 1 - i:Nat):Int):=by omega
   refine Ev.step (fun k=>rfl) ?_
   refine ev_pos (by simp;omega) ?_
   rw[w64 (x:=(c:Int) - 1) (by omega) (by omega),w64 (x:=(c:Int) - 1 - i) (by omega) (by omega),e]
   refine ev_pos (by rw[w64 (by omega) (by omega)];omega) (ev_pos (by omega) (ev_pos (by omega) ?_))
   rw[shr_pow _ _ (by omega),w64 (x:=(i:Int)+1) (by omega) (by omega)]
   exact h
  ·intro hs
   refine Ev.step (fun k=>rfl) ?_
   refine ev_neg (by simp) (ev_eq ev_some ?_)
   rw[iter_set c (fun i=>x / 256 ^ (c - 1 - i) % 256) _ (by simp),digs_map]
 have bad:Ev (fun k=>impl_BytesOf.j2 k x (c:Int) true) ([],false):=by
  refine Ev.step (fun k=>rfl) ?_
  exact ev_some
 refine Ev.step (fun k=>rfl) ?_
 unfold bytesOf
 rw[← hx]
 refine ev_if (fun h=>?_) (fun h=>ev_pos (by rw[w64 (by omega) (by omega)];omega) ?_)
 ·rw[if_neg (by omega)]
  exact bad
 ·rw[shr_pow _ _ hc]
  by_cases q:x / 256 ^ c=1
  ·rw[if_pos ⟨by omega,q⟩,q]
   exact fin
  ·rw[if_neg (fun z=>q z.2)]
   have:((x / 256 ^ c) != 1)=true:=by simpa using q
   rw[this]
   exact bad
theorem implBytes_loop (x:Int)(d:Nat):∀c:Nat,c+d=6→c≤cnt x→Ev (fun k=>impl_BytesOf.l0 k x (c:Int)) (bytesOf x):=by
 induction d with
 |zero=>
  intro c h hc
  have:=cnt_le x
  refine Ev.step (fun k=>rfl) ?_
  exact ev_neg (by omega) (implBytes_tail x c (by omega) (by omega))
 | succ d ih=>
  intro c h hc
  refine Ev.step (fun k=>rfl) ?_
  refine ev_pos (by omega) (ev_pos (by rw[w64 (by omega) (by omega)];omega) ?_)
  rw[shr_pow _ _ (by omega)]
  have key:(x / 256 ^ c>1)↔c<cnt x:=by
   have l:∀q:Nat,(if q<c then 1 else 0)+q≥0:=fun q=>by omega
   unfold cnt at hc ⊢
   rcases (show c=0∨c=1∨c=2∨c=3∨c=4∨c=5 by omega) with rfl|rfl|rfl|rfl|rfl|rfl<;>simp only[p256_0,p256_1,p256_2,p256_3,p256_4,p256_5,p256_6,Int.ediv_one]<;>(repeat' split at hc)<;>(repeat' split)<;>omega
  refine ev_if (fun q=>?_) (fun q=>?_)
  ·rw[w64 (by omega) (by omega)]
   exact ih (c+1) (by omega) (key.1 q)
  ·exact implBytes_tail x c (by omega) (by have:=mt key.2 q;omega)
theorem implBytesOf_ev (x:Int):Ev (fun k=>impl_BytesOf.f k x) (bytesOf x):=implBytes_loop x 6 0 (by omega) (by omega)
def strong (l:List Int):Int:=l.foldl (fun s b=>256 * s+b) 1
def sumOf (l:List Int):Int×Int:=if (l.length:Int)>6 then (0,0) else (weakOf l,strong l)
theorem p256_le (i:Nat)(h:i≤6):1≤(256:Int) ^ i∧(256:Int) ^ i≤281474976710656:=by
 rcases (show i=0∨i=1∨i=2∨i=3∨i=4∨i=5∨i=6 by omega) with rfl|rfl|rfl|rfl|rfl|rfl|rfl<;>simp only[p256_0,p256_1,p256_2,p256_3,p256_4,p256_5,p256_6]<;>omega
def StrongIn (i:Nat)(s:Int):Prop:=1≤s∧s<2 * 256 ^ i
theorem strongIn_step {i:Nat}{s b:Int}(h:StrongIn i s)(hb:0≤b∧b≤255):StrongIn (i+1) (256 * s+b):=by
 unfold StrongIn at h ⊢
 rw[pow256_succ]
 generalize (256:Int) ^ i=p at h ⊢
 omega
theorem strongIn_le {i:Nat}{s:Int}(h:StrongIn i s)(hi:i≤6):1≤s∧s≤562949953421311:=by
 unfold StrongIn at h
 have:=p256_le i hi
 omega
theorem specSumOf_ev (l:List Int)(hb:Bytes l):Ev (fun k=>spec_SumOf.f k l) (sumOf l):=by
 unfold spec_SumOf.f sumOf
 refine ev_if (fun h=>ev_eq ev_some (by rw[if_pos h])) (fun h=>?_)
 rw[if_neg h]
 refine loop_up (σ:=Int) (fun k s i=>spec_SumOf.l0 k l s i) l.length (fun i s=>256 * s+l.getD i 0) (fun i s=>StrongIn i s) 1 _ (by simp [StrongIn]) (fun i s _ hs=>strongIn_step hs (bytes_getD hb i)) ?_ ?_
 ·intro i s r hi hs h
  have q:=strongIn_le hs (by omega)
  have z:=bytes_getD hb i
  refine Ev.step (fun k=>rfl) ?_
  refine ev_pos (by omega) (ev_pos (by omega) ?_)
  simp only[rd,Int.toNat_natCast]
  rw[w64 (x:=256 * s) (by omega) (by omega),w64 (x:=l.getD i 0) (by omega) (by omega),w64 (x:=256 * s+l.getD i 0) (by omega) (by omega),w64 (x:=(i:Int)+1) (by omega) (by omega)]
  exact h
 ·intro hs
  refine Ev.step (fun k=>rfl) ?_
  refine ev_neg (by omega) (Ev.bind (specWeakOf_ev l (by omega) hb) (ev_eq ev_some ?_))
  rw[iter_foldl_all (fun s b=>256 * s+b) l 0 1]
  rfl
theorem strong_digs (c:Nat):∀x:Int,1≤x→x / 256 ^ c=1→strong (digs c x)=x:=by
 induction c with
 |zero=>intro x h1 h;simp at h;simp [digs,strong,h]
 | succ c ih=>
  intro x h1 h
  rw[div256] at h
  have hge:1≤x / 256:=by
   by_cases q:1≤x / 256
   ·exact q
   ·have z:x / 256=0:=by omega
    rw[z,Int.zero_ediv] at h
    omega
  have e:=ih (x / 256) hge h
  unfold strong at e ⊢
  rw[digs,List.foldl_append,e]
  simp only[List.foldl_cons,List.foldl_nil]
  omega
theorem bytesOf_strong (x:Int)(h:(bytesOf x).2=true):sumOf (bytesOf x).1=(weakOf (bytesOf x).1,x):=by
 have hl:=bytesOf_length x
 unfold sumOf
 rw[if_neg (by omega)]
 unfold bytesOf at h ⊢
 split at h
 ·rename_i q
  rw[if_pos q]
  simp only
  rw[strong_digs _ _ q.1 q.2]
 ·simp at h
def blockOk (b c:Int)(l:List S96)(i:Nat):Bool:=(bytesOf (l.getD i z96).f1).2&&(decide (((bytesOf (l.getD i z96).f1).1.length:Int)=(spanOf b c i).2)&&decide (weakOf (bytesOf (l.getD i z96).f1).1=(l.getD i z96).f0))
def manOk (a b c:Int)(l:List S96):Bool:=if a=0 then decide (b=0∧c=0∧l.length=0) else if (1≤a∧a≤1000000)∧sizeOk b c=true∧(l.length:Int)=blocks b c then (List.range l.length).all (blockOk b c l) else false
theorem specMan_loop (a b c:Int)(l:List S96)(hl:l.length≤1048576):Ev (fun k=>spec_ManOk.l0 k 0 a b c l) ((List.range l.length).all (blockOk b c l)):=by
 refine loop_all (fun k i=>spec_ManOk.l0 k i a b c l) l.length _ ?_ ?_ ?_
 ·intro i r hi hp h
  simp only[blockOk,Bool.and_eq_true,decide_eq_true_eq] at hp
  refine Ev.step (fun k=>rfl) ?_
  refine ev_pos (by omega) (ev_pos (by omega) ?_)
  simp only[rd_T96,Int.toNat_natCast]
  refine Ev.bind (specBytesOf_ev _) (ev_then (specSpanOf_eq _ _ _) (ev_pos hp.1 (ev_pos hp.2.1 ?_)))
  refine Ev.bind (specSumOf_ev _ (bytesOf_bytes _)) ?_
  rw[bytesOf_strong _ hp.1]
  refine ev_neg (by rw[hp.2.2];simp) ?_
  rw[w64 (by omega) (by omega)]
  exact h
 ·intro i hi hp
  simp only[blockOk,Bool.and_eq_false_iff,decide_eq_false_iff_not] at hp
  refine Ev.step (fun k=>rfl) ?_
  refine ev_pos (by omega) (ev_pos (by omega) ?_)
  simp only[rd_T96,Int.toNat_natCast]
  refine Ev.bind (specBytesOf_ev _) (ev_then (specSpanOf_eq _ _ _) ?_)
  refine ev_if (fun h1=>?_) (fun _=>ev_some)
  refine ev_if (fun h2=>?_) (fun _=>ev_some)
  refine Ev.bind (specSumOf_ev _ (bytesOf_bytes _)) ?_
  rw[bytesOf_strong _ h1]
  have h3:¬weakOf (bytesOf (l.getD i z96).f1).1=(l.getD i z96).f0:=by
   rcases hp with q|q|q
   ·rw[h1] at q;cases q
   ·exact absurd h2 q
   ·exact q
  exact ev_pos (by rw[show(weakOf (bytesOf (l.getD i z96).f1).1==(l.getD i z96).f0)=false from beq_eq_false_iff_ne.2 h3];rfl) ev_some
 ·refine Ev.step (fun k=>rfl) ?_
  exact ev_neg (by omega) ev_some
theorem implMan_loop (a b c:Int)(l:List S96)(hl:l.length≤1048576):Ev (fun k=>impl_ManOk.l0 k l (l.length:Int) 0 a b c l) ((List.range l.length).all (blockOk b c l)):=by
 refine loop_all (fun k i=>impl_ManOk.l0 k l (l.length:Int) i a b c l) l.length _ ?_ ?_ ?_
 ·intro i r hi hp h
  simp only[blockOk,Bool.and_eq_true,decide_eq_true_eq] at hp
  refine Ev.step (fun k=>rfl) ?_
  refine ev_pos (by omega) (ev_pos (by omega) (ev_pos (by omega) ?_))
  simp only[rd_T96,Int.toNat_natCast]
  refine Ev.bind (implBytesOf_ev _) (ev_then (implSpanOf_eq _ _ _) (ev_pos hp.1 (ev_pos hp.2.1 ?_)))
  have hle:=bytesOf_length (l.getD i z96).f1
  refine Ev.bind (implWeakOf_ev _ (by omega) (bytesOf_bytes _)) (ev_pos hp.2.2 ?_)
  rw[w64 (by omega) (by omega)]
  exact h
 ·intro i hi hp
  simp only[blockOk,Bool.and_eq_false_iff,decide_eq_false_iff_not] at hp
  refine Ev.step (fun k=>rfl) ?_
  refine ev_pos (by omega) (ev_pos (by omega) (ev_pos (by omega) ?_))
  simp only[rd_T96,Int.toNat_natCast]
  refine Ev.bind (implBytesOf_ev _) (ev_then (implSpanOf_eq _ _ _) ?_)
  refine ev_if (fun h1=>?_) (fun _=>ev_some)
  refine ev_if (fun h2=>?_) (fun _=>ev_some)
  have hle:=bytesOf_length (l.getD i z96).f1
  refine Ev.bind (implWeakOf_ev _ (by omega) (bytesOf_bytes _)) ?_
  have h3:¬weakOf (bytesOf (l.getD i z96).f1).1=(l.getD i z96).f0:=by
   rcases hp with q|q|q
   ·rw[h1] at q;cases q
   ·exact absurd h2 q
   ·exact q
  exact ev_neg h3 ev_some
 ·refine Ev.step (fun k=>rfl) ?_
  exact ev_neg (by omega) ev_some
theorem specManOk_ev (a b c:Int)(l:List S96)(hl:l.length≤1048576):Ev (fun k=>spec_ManOk.f k a b c l) (manOk a b c l):=by
 unfold spec_ManOk.f manOk
 refine ev_if (fun ha=>?_) (fun ha=>?_)
 ·rw[if_pos ha]
  refine ev_if (fun hb=>?_) (fun hb=>ev_eq ev_some (by simp [hb]))
  refine ev_if (fun hc=>ev_eq ev_some ?_) (fun hc=>ev_eq ev_some (by simp [hc]))
  rw[Bool.eq_iff_iff]
  simp [hb,hc]
 ·rw[if_neg ha,l1In_eq]
  simp only[Option.bind_some]
  have bad:∀(h:¬((1≤a∧a≤1000000)∧sizeOk b c=true∧(l.length:Int)=blocks b c)),Ev (fun k=>spec_ManOk.j0 k true a b c l) (if (1≤a∧a≤1000000)∧sizeOk b c=true∧(l.length:Int)=blocks b c then (List.range l.length).all (blockOk b c l) else false):=by
   intro h
   rw[if_neg h]
   refine Ev.step (fun k=>rfl) ?_
   exact ev_some
  refine ev_if (fun h1=>?_) (fun h1=>bad (fun z=>h1 (by simpa using z.1)))
  rw[specSizeOk_eq]
  simp only[Option.bind_some]
  refine ev_if (fun h2=>?_) (fun h2=>bad (fun z=>h2 z.2.1))
  rw[specBlocks_eq]
  simp only[Option.bind_some]
  by_cases h3:(l.length:Int)=blocks b c
  ·have e:((l.length:Int) != blocks b c)=false:=by simp [h3]
   rw[e,if_pos ⟨by simpa using h1,h2,h3⟩]
   refine Ev.step (fun k=>rfl) ?_
   exact specMan_loop a b c l hl
  ·have e:((l.length:Int) != blocks b c)=true:=by simp [h3]
   rw[e]
   exact bad (fun z=>h3 z.2.2)
theorem implManOk_ev (a b c:Int)(l:List S96)(hl:l.length≤1048576):Ev (fun k=>impl_ManOk.f k a b c l) (manOk a b c l):=by
 unfold impl_ManOk.f manOk
 have ez:impl_isZeroMan.f a b c l=some (decide (a=0∧b=0∧c=0∧l.length=0)):=by
  unfold impl_isZeroMan.f
  repeat' split
  all_goals simp_all
  all_goals rw[Bool.eq_iff_iff];simp
 rw[ez]
 simp only[Option.bind_some]
 have bad:∀(h:¬((1≤a∧a≤1000000)∧sizeOk b c=true∧(l.length:Int)=blocks b c)),Ev (fun k=>impl_ManOk.j0 k true a b c l) (if (1≤a∧a≤1000000)∧sizeOk b c=true∧(l.length:Int)=blocks b c then (List.range l.length).all (blockOk b c l) else false):=by
  intro h
  rw[if_neg h]
  refine Ev.step (fun k=>rfl) ?_
  exact ev_some
 by_cases ha:a=0
 ·rw[if_pos ha]
  refine ev_if (fun hz=>ev_eq ev_some ?_) (fun hz=>?_)
  ·simp only[decide_eq_true_eq] at hz
   simp [hz.2]
  ·have e:decide (b=0∧c=0∧l.length=0)=false:=by
    simp only[decide_eq_true_eq] at hz
    rw[decide_eq_false_iff_not]
    exact fun q=>hz ⟨ha,q⟩
   rw[e,within_eq]
   simp only[Option.bind_some]
   refine ev_neg (by simp;omega) ?_
   exact ev_eq (bad (by omega)) (by rw[if_neg (by omega)])
 ·rw[if_neg ha]
  refine ev_neg (by simp [ha]) ?_
  rw[within_eq]
  simp only[Option.bind_some]
  refine ev_if (fun h1=>?_) (fun h1=>bad (fun z=>h1 (by simpa using z.1)))
  rw[implSizeOk_eq]
  simp only[Option.bind_some]
  refine ev_if (fun h2=>?_) (fun h2=>bad (fun z=>h2 z.2.1))
  rw[implBlocks_eq]
  simp only[Option.bind_some]
  by_cases h3:(l.length:Int)=blocks b c
  ·have e:((l.length:Int) != blocks b c)=false:=by simp [h3]
   rw[e,if_pos ⟨by simpa using h1,h2,h3⟩]
   refine Ev.step (fun k=>rfl) ?_
   exact implMan_loop a b c l hl
  ·have e:((l.length:Int) != blocks b c)=true:=by simp [h3]
   rw[e]
   exact bad (fun z=>h3 z.2.2)
def setOk (s:Int):Bool:=decide (0≤s∧s≤1099511627775)
theorem specSetOk_eq (s:Int):spec_SetOk.f s=some (setOk s):=by
 unfold spec_SetOk.f
 rw[l1In_eq]
 rfl
theorem implSetOk_eq (s:Int):impl_SetOk.f s=some (setOk s):=by
 unfold impl_SetOk.f
 rw[within_eq]
 rfl
def fullSet (n:Int):Int:=if 0≤n∧n≤40 then wrap64 ((shl .i64 1 n) - 1) else 0
theorem specFullSet_eq (n:Int):spec_FullSet.f n=some (fullSet n):=by
 unfold spec_FullSet.f fullSet
 rw[l1In_eq]
 simp only[Option.bind_some]
 by_cases h:0≤n∧n≤40
 ·rw[if_pos (by simpa using h),if_pos h.1,if_pos h]
 ·rw[if_neg (by simpa using h),if_neg h]
theorem implFullSet_eq (n:Int):impl_FullSet.f n=some (fullSet n):=by
 unfold impl_FullSet.f fullSet
 rw[within_eq]
 simp only[Option.bind_some]
 by_cases h:0≤n∧n≤40
 ·rw[if_pos (by simpa using h),if_pos h.1,if_pos h]
 ·rw[if_neg (by simpa using h),if_neg h]
def without (a b:Int):Int:=if setOk a=true then (if setOk b=true then Go.bits .andNot .i64 a b else 0) else 0
theorem specWithout_eq (a b:Int):spec_Without.f a b=some (without a b):=by
 unfold spec_Without.f without
 rw[specSetOk_eq,specSetOk_eq]
 simp only[Option.bind_some]
 by_cases h:setOk a=true
 ·rw[if_pos h,if_pos h]
  by_cases h':setOk b=true
  ·rw[if_pos h',if_pos h']
  ·rw[if_neg h',if_neg h']
 ·rw[if_neg h,if_neg h]
theorem implWithout_eq (a b:Int):impl_Without.f a b=some (without a b):=by
 unfold impl_Without.f without
 rw[implSetOk_eq,implSetOk_eq]
 simp only[Option.bind_some]
 by_cases h:setOk a=true
 ·rw[if_pos h,if_pos h]
  by_cases h':setOk b=true
  ·rw[if_pos h',if_pos h']
  ·rw[if_neg h',if_neg h']
 ·rw[if_neg h,if_neg h]
def missing (l:List S96)(h:Int):Int:=without (fullSet l.length) h
theorem specMissing_eq (a b c:Int)(l:List S96)(h:Int)(m:List Int):spec_Missing.f a b c l h m=some (missing l h):=by
 unfold spec_Missing.f spec_AllParts.f missing
 rw[specFullSet_eq]
 simp only[Option.bind_some]
 rw[specWithout_eq]
 rfl
theorem implMissing_eq (a b c:Int)(l:List S96)(h:Int)(m:List Int):impl_Missing.f a b c l h m=some (missing l h):=by
 unfold impl_Missing.f impl_AllParts.f missing
 rw[implFullSet_eq]
 simp only[Option.bind_some]
 rw[implWithout_eq]
 rfl
def inSet (s i:Int):Bool:=if setOk s=true then (if 0≤i∧i≤39 then (Go.bits .and .i64 (shr .i64 s i) 1)==1 else false) else false
theorem specInSet_eq (s i:Int):spec_InSet.f s i=some (inSet s i):=by
 unfold spec_InSet.f inSet
 rw[specSetOk_eq]
 simp only[Option.bind_some]
 by_cases h:setOk s=true
 ·rw[if_pos h,if_pos h,l1In_eq]
  simp only[Option.bind_some]
  by_cases q:0≤i∧i≤39
  ·rw[if_pos (by simpa using q),if_pos q.1,if_pos q]
  ·rw[if_neg (by simpa using q),if_neg q]
 ·rw[if_neg h,if_neg h]
theorem implInSet_eq (s i:Int):impl_InSet.f s i=some (inSet s i):=by
 unfold impl_InSet.f inSet
 rw[implSetOk_eq]
 simp only[Option.bind_some]
 by_cases h:setOk s=true
 ·rw[if_pos h,if_pos h]
  have e:impl_isPlace.f i=some (decide (0≤i∧i≤39)):=by
   unfold impl_isPlace.f
   rw[within_eq]
   rfl
  rw[e]
  simp only[Option.bind_some]
  by_cases q:0≤i∧i≤39
  ·rw[if_pos (by simpa using q),if_pos q.1,if_pos q]
  ·rw[if_neg (by simpa using q),if_neg q]
 ·rw[if_neg h,if_neg h]
theorem shl_one (m:Nat)(h:m≤40):shl .i64 1 (m:Int)=((2 ^ m:Nat):Int):=by
 have hp:(2:Nat) ^ m≤2 ^ 40:=Nat.pow_le_pow_right (by decide) h
 unfold shl
 rw[Int.toNat_natCast,Nat.min_eq_left (by simp [IntKind.bits];omega),Int.one_mul,show(2:Int) ^ m=((2 ^ m:Nat):Int) by simp]
 generalize 2 ^ m=p at hp ⊢
 exact wraps_i64 _ (by omega) (by omega)
theorem or_byte (s b:Int)(h0:0≤s)(h1:s≤562949953421311)(hb:0≤b∧b≤255):Go.bits .or .i64 (s * 256) b=256 * s+b:=by
 obtain⟨a,rfl⟩:=Int.eq_ofNat_of_zero_le h0
 obtain⟨c,rfl⟩:=Int.eq_ofNat_of_zero_le hb.1
 have e:((a:Int) * 256)=((2 ^ 8 * a:Nat):Int):=by omega
 rw[e,or_nat _ _ (by omega) (by omega),← Nat.two_pow_add_eq_or_of_lt (by omega)]
 omega
theorem implSumOf_ev (l:List Int)(hb:Bytes l):Ev (fun k=>impl_SumOf.f k l) (sumOf l):=by
 unfold impl_SumOf.f sumOf
 refine ev_if (fun h=>ev_eq ev_some (by rw[if_pos h])) (fun h=>?_)
 rw[if_neg h]
 refine loop_up (σ:=Int) (fun k s i=>impl_SumOf.l0 k l s l (l.length:Int) i) l.length (fun i s=>256 * s+l.getD i 0) (fun i s=>StrongIn i s) 1 _ (by simp [StrongIn]) (fun i s _ hs=>strongIn_step hs (bytes_getD hb i)) ?_ ?_
 ·intro i s r hi hs h
  have q:=strongIn_le hs (by omega)
  have z:=bytes_getD hb i
  refine Ev.step (fun k=>rfl) ?_
  refine ev_pos (by omega) (ev_pos (by omega) (ev_pos (by omega) ?_))
  simp only[rd,Int.toNat_natCast]
  rw[w64 (x:=s * 256) (by omega) (by omega),w64 (x:=l.getD i 0) (by omega) (by omega),or_byte s _ (by omega) (by omega) z,w64 (x:=(i:Int)+1) (by omega) (by omega)]
  exact h
 ·intro hs
  refine Ev.step (fun k=>rfl) ?_
  refine ev_neg (by omega) (Ev.bind (implWeakOf_ev l (by omega) hb) (ev_eq ev_some ?_))
  rw[iter_foldl_all (fun s b=>256 * s+b) l 0 1]
  rfl
theorem setOk_full (n:Int):setOk (fullSet n)=true:=by
 unfold setOk fullSet
 rw[decide_eq_true_eq]
 split
 ·rename_i h
  have e:n=((n.toNat:Nat):Int):=by omega
  have hm:n.toNat≤40:=by omega
  have hp:2 ^ n.toNat≤1099511627776:=Nat.le_trans (Nat.pow_le_pow_right (by decide) hm) (by decide)
  have h0:0<2 ^ n.toNat:=Nat.two_pow_pos _
  rw[e,shl_one _ hm,w64 (by omega) (by omega)]
  omega
 ·omega
def piece (b c:Int)(m:List Int)(i:Int):List Int:=(m.take ((spanOf b c i).1+(spanOf b c i).2).toNat).drop (spanOf b c i).1.toNat
theorem bytes_piece {m:List Int}(h:Bytes m)(b c i:Int):Bytes (piece b c m i):=fun x hx=>h x (List.mem_of_mem_take (List.mem_of_mem_drop hx))
theorem piece_length (b c:Int)(m:List Int)(i:Int):(piece b c m i).length≤240:=by
 have:=spanOf_range b c i
 unfold piece
 rw[List.length_drop,List.length_take]
 omega
theorem span_in {b c:Int}{m:List Int}(hc:(m.length:Int)=c)(i:Int):(spanOf b c i).1+(spanOf b c i).2≤m.length:=by
 unfold spanOf
 split
 ·rename_i h
  have s:=span_at h
  simp only
  split<;>omega
 ·simp
theorem implBlock_eq (h:Int)(m:List Int)(a b c:Int)(l:List S96)(i:Int)(hi:(spanOf b c i).1+(spanOf b c i).2≤m.length):impl_Build_block.f h m a b c l i=some (piece b c m i):=by
 unfold impl_Build_block.f piece
 have r:=spanOf_range b c i
 rw[implSpanOf_eq]
 simp only[Option.bind_some]
 rw[w64 (by omega) (by omega),if_pos (by omega),if_pos (by omega),if_pos (by omega)]
def zeros (s:List Int):Bool:=(List.range s.length).all (fun i=>decide (rd s (i:Int)=0))
theorem specZero_ev (s:List Int)(hl:s.length≤1048576):Ev (fun k=>spec_l8Zero.f k s) (zeros s):=by
 unfold spec_l8Zero.f zeros
 refine loop_all (fun k i=>spec_l8Zero.l0 k s i) s.length (fun i=>decide (rd s (i:Int)=0)) ?_ ?_ ?_
 ·intro i r hi hp h
  refine Ev.step (fun k=>rfl) (ev_pos (by omega) (ev_pos (by omega) (ev_pos (of_decide_eq_true hp) ?_)))
  rw[w64 (by omega) (by omega)]
  exact h
 ·intro i hi hp
  exact Ev.step (fun k=>rfl) (ev_pos (by omega) (ev_pos (by omega) (ev_neg (of_decide_eq_false hp) ev_some)))
 ·exact Ev.step (fun k=>rfl) (ev_neg (by omega) ev_some)
theorem implNonzero_ev (s:List Int)(hl:s.length≤1048576):Ev (fun k=>slices_ContainsFunc_byte_byte.f k s) (!zeros s):=by
 have one:∀x:Int,impl_BuildOk_1.f x=some (!decide (x=0)):=by
  intro x
  unfold impl_BuildOk_1.f
  by_cases h:x=0
  ·subst h;rfl
  ·rw[decide_eq_false h]
   exact congrArg some (bne_iff_ne.mpr h)
 have h:=loop_find (fun k i=>slices_IndexFunc_byte_byte.l0 k s (s.length:Int) i) s.length (fun i=>!decide (rd s (i:Int)=0)) (fun i=>(i:Int)) (-1) (fun i hi hp=>by
   exact Ev.step (fun k=>rfl) (ev_pos (by omega) (ev_pos (by omega) (ev_pos (by omega) (ev_then (one _) (ev_pos hp ev_some)))))) (fun i r hi hp h=>by
   refine Ev.step (fun k=>rfl) (ev_pos (by omega) (ev_pos (by omega) (ev_pos (by omega) (ev_then (one _) (ev_neg (by rw[hp];decide) ?_)))))
   rw[w64 (by omega) (by omega)]
   exact h) (Ev.step (fun k=>rfl) (ev_neg (by omega) ev_some))
 unfold slices_ContainsFunc_byte_byte.f slices_IndexFunc_byte_byte.f
 refine Ev.bind h (ev_eq ev_some ?_)
 unfold zeros
 cases hf:(List.range s.length).find? (fun i:Nat=>!decide (rd s (i:Int)=0)) with
 | some i=>
  have h1:=List.find?_some hf
  have h2:=List.mem_of_find?_eq_some hf
  have h3:(List.range s.length).all (fun i=>decide (rd s (i:Int)=0))=false:=by
   rw[List.all_eq_false]
   exact⟨i,h2,by simpa using h1⟩
  rw[h3]
  exact decide_eq_true (Int.natCast_nonneg i)
 | none=>
  have h3:(List.range s.length).all (fun i=>decide (rd s (i:Int)=0))=true:=by
   rw[List.all_eq_true]
   intro x hx
   have:=List.find?_eq_none.1 hf x hx
   simpa using this
  rw[h3]
  rfl
def sumIs (s:Int×Int)(x:S96):Bool:=(s.1==x.f0)&&(s.2==x.f1)
theorem sum_ne (s:Int×Int)(x:S96):(!(s.1==x.f0)||(!(s.2==x.f1)))=!sumIs s x:=by
 unfold sumIs
 cases (s.1==x.f0)<;>cases (s.2==x.f1)<;>rfl
def partOk (b c:Int)(l:List S96)(h:Int)(m:List Int)(i:Nat):Bool:=if inSet h (i:Int)=true then sumIs (sumOf (piece b c m (i:Int))) (l.getD i z96) else zeros (piece b c m (i:Int))
def buildOk (a b c:Int)(l:List S96)(h:Int)(m:List Int):Bool:=manOk a b c l&&(setOk h&&(decide (Go.bits .andNot .i64 h (fullSet l.length)=0)&&(decide ((m.length:Int)=c)&&(List.range l.length).all (partOk b c l h m))))
theorem manOk_blocks {a b c:Int}{l:List S96}(h:manOk a b c l=true):l.length≤40∧(l.length:Int)≤blocks b c:=by
 have r:=blocks_range b c
 unfold manOk at h
 split at h
 ·have:=of_decide_eq_true h
  omega
 ·split at h
  ·rename_i q
   omega
  ·cases h
theorem specBuildOk_ev (a b c:Int)(l:List S96)(h:Int)(m:List Int)(hl:l.length≤1048576)(hb:Bytes m):Ev (fun k=>spec_BuildOk.f k a b c l h m) (buildOk a b c l h m):=by
 unfold spec_BuildOk.f buildOk
 have badE:Ev (fun k=>spec_BuildOk.j0 k true a b c l h m) false:=Ev.step (fun k=>rfl) (ev_true (g:=fun k=>spec_BuildOk.l0 k 0 a b c l h m) ev_some)
 refine Ev.bind (specManOk_ev a b c l hl) ?_
 by_cases h1:manOk a b c l=true
 ·refine ev_pos h1 (ev_then (specSetOk_eq h) ?_)
  rw[h1,Bool.true_and]
  have hn:=manOk_blocks h1
  by_cases h2:setOk h=true
  ·refine ev_pos h2 ?_
   rw[h2,Bool.true_and]
   have ew:without h (fullSet l.length)=Go.bits .andNot .i64 h (fullSet l.length):=by
    unfold without
    rw[if_pos h2,if_pos (setOk_full _)]
   refine ev_then (show spec_AllParts.f a b c l=some (fullSet l.length) by unfold spec_AllParts.f;rw[specFullSet_eq];rfl) (ev_then (specWithout_eq _ _) ?_)
   rw[ew]
   by_cases h3:Go.bits .andNot .i64 h (fullSet l.length)=0
   ·refine ev_pos h3 (Ev.step (fun k=>rfl) ?_)
    rw[decide_eq_true h3,Bool.true_and]
    by_cases h4:(m.length:Int)=c
    ·refine ev_neg (by simpa using h4) ?_
     rw[decide_eq_true h4,Bool.true_and]
     refine loop_all (fun k i=>spec_BuildOk.l0 k i a b c l h m) l.length (partOk b c l h m) ?_ ?_ ?_
     ·intro i r hi hp hr
      have hs:=span_in (b:=b) h4 (i:Int)
      have r:=spanOf_range b c (i:Int)
      have pl:=piece_length b c m (i:Int)
      refine Ev.step (fun k=>rfl) (ev_pos (by omega) (ev_then (specSpanOf_eq _ _ _) ?_))
      rw[w64 (x:=(spanOf b c (i:Int)).1+(spanOf b c (i:Int)).2) (by omega) (by omega)]
      refine ev_pos r.1 (ev_pos (by omega) (ev_pos hs (ev_then (specInSet_eq _ _) ?_)))
      unfold partOk at hp
      by_cases q:inSet h (i:Int)=true
      ·rw[if_pos q] at hp
       refine ev_pos q (Ev.bind (specSumOf_ev _ (bytes_piece hb b c (i:Int))) (ev_pos (by omega) ?_))
       simp only[rd_T96,Int.toNat_natCast]
       refine ev_neg (by have e:=sum_ne (sumOf (piece b c m (i:Int))) (l.getD i z96);rw[hp] at e;unfold piece at e;rw[e];decide) (ev_then (specInSet_eq _ _) (ev_pos q ?_))
       rw[w64 (by omega) (by omega)]
       exact hr
      ·rw[if_neg q] at hp
       refine ev_neg q (ev_then (specInSet_eq _ _) (ev_neg q (Ev.bind (specZero_ev (piece b c m (i:Int)) (by omega)) (ev_pos hp ?_))))
       rw[w64 (by omega) (by omega)]
       exact hr
     ·intro i hi hp
      have hs:=span_in (b:=b) h4 (i:Int)
      have r:=spanOf_range b c (i:Int)
      have pl:=piece_length b c m (i:Int)
      refine Ev.step (fun k=>rfl) (ev_pos (by omega) (ev_then (specSpanOf_eq _ _ _) ?_))
      rw[w64 (x:=(spanOf b c (i:Int)).1+(spanOf b c (i:Int)).2) (by omega) (by omega)]
      refine ev_pos r.1 (ev_pos (by omega) (ev_pos hs (ev_then (specInSet_eq _ _) ?_)))
      unfold partOk at hp
      by_cases q:inSet h (i:Int)=true
      ·rw[if_pos q] at hp
       refine ev_pos q (Ev.bind (specSumOf_ev _ (bytes_piece hb b c (i:Int))) (ev_pos (by omega) ?_))
       simp only[rd_T96,Int.toNat_natCast]
       exact ev_pos (by have e:=sum_ne (sumOf (piece b c m (i:Int))) (l.getD i z96);rw[hp] at e;unfold piece at e;rw[e];rfl) ev_some
      ·rw[if_neg q] at hp
       exact ev_neg q (ev_then (specInSet_eq _ _) (ev_neg q (Ev.bind (specZero_ev (piece b c m (i:Int)) (by omega)) (ev_neg (by rw[hp];decide) ev_some))))
     ·exact Ev.step (fun k=>rfl) (ev_neg (by omega) ev_some)
    ·refine ev_pos (by simpa using h4) (ev_eq ev_some ?_)
     rw[decide_eq_false h4,Bool.false_and]
   ·refine ev_neg h3 (ev_eq badE ?_)
    rw[decide_eq_false h3,Bool.false_and]
  ·refine ev_neg h2 (ev_eq badE ?_)
   rw[Bool.eq_false_iff.mpr h2,Bool.false_and]
 ·refine ev_neg h1 (ev_eq badE ?_)
  rw[Bool.eq_false_iff.mpr h1,Bool.false_and]
theorem implBuildOk_ev (a b c:Int)(l:List S96)(h:Int)(m:List Int)(hl:l.length≤1048576)(hb:Bytes m):Ev (fun k=>impl_BuildOk.f k a b c l h m) (buildOk a b c l h m):=by
 unfold impl_BuildOk.f buildOk
 have badE:Ev (fun k=>impl_BuildOk.j0 k true a b c l h m) false:=Ev.step (fun k=>rfl) (ev_true (g:=fun k=>impl_BuildOk.l0 k l (l.length:Int) 0 a b c l h m) ev_some)
 refine Ev.bind (implManOk_ev a b c l hl) ?_
 by_cases h1:manOk a b c l=true
 ·refine ev_pos h1 (ev_then (implSetOk_eq h) ?_)
  rw[h1,Bool.true_and]
  have hn:=manOk_blocks h1
  by_cases h2:setOk h=true
  ·refine ev_pos h2 ?_
   rw[h2,Bool.true_and]
   refine ev_then (show impl_AllParts.f a b c l=some (fullSet l.length) by unfold impl_AllParts.f;rw[implFullSet_eq];rfl) ?_
   by_cases h3:Go.bits .andNot .i64 h (fullSet l.length)=0
   ·refine ev_pos h3 (Ev.step (fun k=>rfl) ?_)
    rw[decide_eq_true h3,Bool.true_and]
    by_cases h4:(m.length:Int)=c
    ·refine ev_neg (by simpa using h4) ?_
     rw[decide_eq_true h4,Bool.true_and]
     refine loop_all (fun k i=>impl_BuildOk.l0 k l (l.length:Int) i a b c l h m) l.length (partOk b c l h m) ?_ ?_ ?_
     ·intro i r hi hp hr
      have hs:=span_in (b:=b) h4 (i:Int)
      have pl:=piece_length b c m (i:Int)
      refine Ev.step (fun k=>rfl) (ev_pos (by omega) (ev_pos (by omega) (ev_pos (by omega) (ev_then (implBlock_eq h m a b c l (i:Int) hs) (ev_then (implInSet_eq _ _) ?_)))))
      unfold partOk at hp
      by_cases q:inSet h (i:Int)=true
      ·rw[if_pos q] at hp
       refine ev_pos q (Ev.bind (implSumOf_ev _ (bytes_piece hb b c (i:Int))) ?_)
       simp only[rd_T96,Int.toNat_natCast]
       refine ev_neg (by rw[sum_ne,hp];decide) (ev_then (implInSet_eq _ _) (ev_pos q ?_))
       rw[w64 (by omega) (by omega)]
       exact hr
      ·rw[if_neg q] at hp
       refine ev_neg q (ev_then (implInSet_eq _ _) (ev_neg q (Ev.bind (implNonzero_ev (piece b c m (i:Int)) (by omega)) (ev_neg (by rw[hp];decide) ?_))))
       rw[w64 (by omega) (by omega)]
       exact hr
     ·intro i hi hp
      have hs:=span_in (b:=b) h4 (i:Int)
      have pl:=piece_length b c m (i:Int)
      refine Ev.step (fun k=>rfl) (ev_pos (by omega) (ev_pos (by omega) (ev_pos (by omega) (ev_then (implBlock_eq h m a b c l (i:Int) hs) (ev_then (implInSet_eq _ _) ?_)))))
      unfold partOk at hp
      by_cases q:inSet h (i:Int)=true
      ·rw[if_pos q] at hp
       refine ev_pos q (Ev.bind (implSumOf_ev _ (bytes_piece hb b c (i:Int))) ?_)
       simp only[rd_T96,Int.toNat_natCast]
       exact ev_pos (by rw[sum_ne,hp];rfl) ev_some
      ·rw[if_neg q] at hp
       exact ev_neg q (ev_then (implInSet_eq _ _) (ev_neg q (Ev.bind (implNonzero_ev (piece b c m (i:Int)) (by omega)) (ev_pos (by rw[hp];rfl) ev_some))))
     ·exact Ev.step (fun k=>rfl) (ev_neg (by omega) ev_some)
    ·refine ev_pos (by simpa using h4) (ev_eq ev_some ?_)
     rw[decide_eq_false h4,Bool.false_and]
   ·refine ev_neg h3 (ev_eq badE ?_)
    rw[decide_eq_false h3,Bool.false_and]
  ·refine ev_neg h2 (ev_eq badE ?_)
   rw[Bool.eq_false_iff.mpr h2,Bool.false_and]
 ·refine ev_neg h1 (ev_eq badE ?_)
  rw[Bool.eq_false_iff.mpr h1,Bool.false_and]
def wholeB (a b c:Int)(l:List S96)(h:Int)(m:List Int):Bool:=if a=0 then false else (if buildOk a b c l h m=true then (missing l h==0) else false)
theorem specWhole_ev (a b c:Int)(l:List S96)(h:Int)(m:List Int)(hl:l.length≤1048576)(hb:Bytes m):Ev (fun k=>spec_Whole.f k a b c l h m) (wholeB a b c l h m):=by
 unfold spec_Whole.f wholeB
 refine ev_if (fun q=>ev_eq ev_some (by rw[if_pos q])) (fun q=>?_)
 rw[if_neg q]
 exact Ev.bind (specBuildOk_ev a b c l h m hl hb) (ev_if (fun r=>ev_then (specMissing_eq _ _ _ _ _ _) (ev_eq ev_some (by rw[if_pos r]))) (fun r=>ev_eq ev_some (by rw[if_neg r])))
theorem implWhole_ev (a b c:Int)(l:List S96)(h:Int)(m:List Int)(hl:l.length≤1048576)(hb:Bytes m):Ev (fun k=>impl_Whole.f k a b c l h m) (wholeB a b c l h m):=by
 unfold impl_Whole.f wholeB
 refine ev_if (fun q=>ev_eq ev_some (by rw[if_pos q])) (fun q=>?_)
 rw[if_neg q]
 exact Ev.bind (implBuildOk_ev a b c l h m hl hb) (ev_if (fun r=>ev_then (implMissing_eq _ _ _ _ _ _) (ev_eq ev_some (by rw[if_pos r]))) (fun r=>ev_eq ev_some (by rw[if_neg r])))
def stepTo (x:List Int×List Int×Int×Int×Int×List S91)(n:Int):List Int×List Int×Int×Int×Int×List S91×Int:=(x.1,x.2.1,x.2.2.1,x.2.2.2.1,x.2.2.2.2.1,x.2.2.2.2.2,n)
def tryTo (x:List Int×List Int×Int×Int×Int×List S91×Bool)(n:Int)(y:List Int×List Int×Int×Int×Int×List S91×Int):List Int×List Int×Int×Int×Int×List S91×Int:=if x.2.2.2.2.2.2=true then (x.1,x.2.1,x.2.2.1,x.2.2.2.1,x.2.2.2.2.1,x.2.2.2.2.2.1,n) else y
def nextCommit (a b:List Int)(c d e:Int)(l:List S91)(g s n:Int)(S:List S96)(H:Int)(M:List Int)(ph:Int):List Int×List Int×Int×Int×Int×List S91×Int:=
 if ph=1 then (if wholeB g s n S H M=true then tryTo (stage a b c d e l M s) 2 (a,b,c,d,e,l,ph) else (a,b,c,d,e,l,ph))
 else if ph=2 then stepTo (sure a b c d e l) 3
 else if ph=3 then tryTo (putRecord a b c d e l g (wrap64 (1 - d)) n) 4 (a,b,c,d,e,l,ph)
 else if ph=4 then stepTo (sure a b c d e l) 5
 else (a,b,c,d,e,l,ph)
theorem specNext_ev (a b:List Int)(c d e:Int)(l:List S91)(g s n:Int)(S:List S96)(H:Int)(M:List Int)(ph:Int)(ha:a.length≤1048576)(hb:b.length≤1048576)(hl:PutsOk 1048577 l)(h3:ph=1∨ph=3→PutsOk 1048576 l)(hS:S.length≤1048576)(hB:Bytes M)(hM:M.length≤1048576):
  Ev (fun k=>spec_NextCommit.f k a b c d e l g s n S H M ph) (nextCommit a b c d e l g s n S H M ph):=by
 have cp:=specCopy_ev a b c d e l (by omega) (by omega) (putsOk_le (by omega) hl)
 have su:=specSure_ev a b c d e l (by omega) (by omega) (putsOk_le (by omega) hl)
 unfold spec_NextCommit.f nextCommit
 refine ev_if (fun q=>?_) (fun q=>?_)
 ·rw[if_pos q]
  refine Ev.bind (specWhole_ev g s n S H M hS hB) (ev_if (fun r=>?_) (fun r=>?_))
  ·rw[if_pos r]
   refine Ev.bind (specStage_ev a b c d e l M s ha hb (h3 (.inl q)) hM) (ev_if (fun u=>?_) (fun u=>?_))
   ·exact ev_eq ev_some (by unfold tryTo;rw[if_pos u])
   ·exact Ev.bind cp (ev_eq ev_some (by unfold tryTo;rw[if_neg u]))
  ·rw[if_neg r]
   exact Ev.bind cp ev_some
 rw[if_neg q]
 refine ev_if (fun q2=>?_) (fun q2=>?_)
 ·rw[if_pos q2]
  exact Ev.bind su ev_some
 rw[if_neg q2]
 refine ev_if (fun q3=>?_) (fun q3=>?_)
 ·rw[if_pos q3]
  have e1:spec_Spare.f a b c d e l=some (wrap64 (1 - d)):=rfl
  refine ev_then e1 (Ev.bind (specPutRecord_ev a b c d e l g (wrap64 (1 - d)) n ha hb (h3 (.inr q3))) (ev_if (fun u=>?_) (fun u=>?_)))
  ·exact ev_eq ev_some (by unfold tryTo;rw[if_pos u])
  ·exact Ev.bind cp (ev_eq ev_some (by unfold tryTo;rw[if_neg u]))
 rw[if_neg q3]
 refine ev_if (fun q4=>?_) (fun q4=>?_)
 ·rw[if_pos q4]
  exact Ev.bind su ev_some
 rw[if_neg q4]
 exact Ev.bind cp ev_some
theorem implNext_ev (a b:List Int)(c d e:Int)(l:List S91)(g s n:Int)(S:List S96)(H:Int)(M:List Int)(ph:Int)(ha:a.length≤1048576)(hb:b.length≤1048576)(hl:PutsOk 1048577 l)(h3:ph=1∨ph=3→PutsOk 1048576 l)(hS:S.length≤1048576)(hB:Bytes M)(hM:M.length≤1048576):
  Ev (fun k=>impl_NextCommit.f k a b c d e l g s n S H M ph) (nextCommit a b c d e l g s n S H M ph):=by
 have cp:=implCopy_ev a b c d e l (by omega) (by omega) (putsOk_le (by omega) hl)
 have su:=implSure_ev a b c d e l (by omega) (by omega) (putsOk_le (by omega) hl)
 unfold impl_NextCommit.f nextCommit
 refine ev_if (fun q=>?_) (fun q=>?_)
 ·rw[if_pos q]
  refine Ev.bind (implWhole_ev g s n S H M hS hB) (ev_if (fun r=>?_) (fun r=>?_))
  ·rw[if_pos r]
   refine Ev.bind (implStage_ev a b c d e l M s ha hb (h3 (.inl q)) hM) (ev_if (fun u=>?_) (fun u=>?_))
   ·exact ev_eq ev_some (by unfold tryTo;rw[if_pos u])
   ·exact Ev.bind cp (ev_eq ev_some (by unfold tryTo;rw[if_neg u]))
  ·rw[if_neg r]
   exact Ev.bind cp ev_some
 rw[if_neg q]
 refine ev_if (fun q2=>?_) (fun q2=>?_)
 ·rw[if_pos q2]
  exact Ev.bind su ev_some
 rw[if_neg q2]
 refine ev_if (fun q3=>?_) (fun q3=>?_)
 ·rw[if_pos q3]
  have e1:impl_Spare.f a b c d e l=some (wrap64 (1 - d)):=rfl
  refine ev_then e1 (Ev.bind (implPutRecord_ev a b c d e l g (wrap64 (1 - d)) n ha hb (h3 (.inr q3))) (ev_if (fun u=>?_) (fun u=>?_)))
  ·exact ev_eq ev_some (by unfold tryTo;rw[if_pos u])
  ·exact Ev.bind cp (ev_eq ev_some (by unfold tryTo;rw[if_neg u]))
 rw[if_neg q3]
 refine ev_if (fun q4=>?_) (fun q4=>?_)
 ·rw[if_pos q4]
  exact Ev.bind su ev_some
 rw[if_neg q4]
 exact Ev.bind cp ev_some
theorem tryTo_ok {n:Nat}{x:List Int×List Int×Int×Int×Int×List S91×Bool}{m:Int}{y:List Int×List Int×Int×Int×Int×List S91×Int}(hx:x.1.length≤n∧x.2.1.length≤n∧PutsOk n x.2.2.2.2.2.1)(hy:y.1.length≤n∧y.2.1.length≤n∧PutsOk n y.2.2.2.2.2.1):(tryTo x m y).1.length≤n∧(tryTo x m y).2.1.length≤n∧PutsOk n (tryTo x m y).2.2.2.2.2.1:=by
 unfold tryTo
 split
 ·exact hx
 ·exact hy
theorem putRecord_le (a b:List Int)(c d e:Int)(l:List S91)(x y z:Int){n:Nat}(ha:a.length≤n)(hb:b.length≤n)(hl:PutsOk n l)(hn:200≤n):(putRecord a b c d e l x y z).1.length≤n∧(putRecord a b c d e l x y z).2.1.length≤n∧PutsOk n (putRecord a b c d e l x y z).2.2.2.2.2.1:=by
 unfold putRecord added
 split
 ·rename_i h
  unfold diskOk at h
  rw[Bool.and_eq_true] at h
  have h2:=(of_decide_eq_true h.1).2.2.1
  refine⟨ha,hb,Nat.le_trans h2 hn,fun q hq=>?_⟩
  rcases List.mem_append.1 hq with h1|h1
  ·exact hl.2 q h1
  ·rw[List.mem_singleton] at h1
   rw[h1]
   exact Nat.zero_le _
 ·exact⟨ha,hb,hl⟩
theorem nextCommit_le (a b:List Int)(c d e:Int)(l:List S91)(g s n:Int)(S:List S96)(H:Int)(M:List Int)(ph:Int){m:Nat}(ha:a.length≤m)(hb:b.length≤m)(hl:PutsOk m l)(hm:4096≤m):
  (nextCommit a b c d e l g s n S H M ph).1.length≤m∧(nextCommit a b c d e l g s n S H M ph).2.1.length≤m∧PutsOk m (nextCommit a b c d e l g s n S H M ph).2.2.2.2.2.1:=by
 have h0:(a,b,c,d,e,l,ph).1.length≤m∧(a,b,c,d,e,l,ph).2.1.length≤m∧PutsOk m (a,b,c,d,e,l,ph).2.2.2.2.2.1:=⟨ha,hb,hl⟩
 have hs:=settle_len (fun _=>true) a b c d e l ha hb hl (by omega)
 unfold nextCommit
 split
 ·split
  ·exact tryTo_ok (stage_len a b c d e l M s ha hb hl hm) h0
  ·exact h0
 ·split
  ·exact hs
  ·split
   ·exact tryTo_ok (putRecord_le a b c d e l g (wrap64 (1 - d)) n ha hb hl (by omega)) h0
   ·split
    ·exact hs
    ·exact h0
def rounds (g s n:Int)(S:List S96)(H:Int)(M:List Int):Nat→List Int×List Int×Int×Int×Int×List S91×Int→List Int×List Int×Int×Int×Int×List S91×Int
 |0,x=>x
 |r+1,x=>rounds g s n S H M r (nextCommit x.1 x.2.1 x.2.2.1 x.2.2.2.1 x.2.2.2.2.1 x.2.2.2.2.2.1 g s n S H M x.2.2.2.2.2.2)
def out6 (x:List Int×List Int×Int×Int×Int×List S91×Int):List Int×List Int×Int×Int×Int×List S91:=(x.1,x.2.1,x.2.2.1,x.2.2.2.1,x.2.2.2.2.1,x.2.2.2.2.2.1)
def commitAll (a b:List Int)(c d e:Int)(l:List S91)(g s n:Int)(S:List S96)(H:Int)(M:List Int):List Int×List Int×Int×Int×Int×List S91:=out6 (rounds g s n S H M 4 (a,b,c,d,e,l,1))
section
variable {g s n : Int} {S : List S96} {H : Int} {M : List Int}
theorem rounds_le {m:Nat}(hm:4096≤m):∀(r:Nat) (x:List Int×List Int×Int×Int×Int×List S91×Int),x.1.length≤m→x.2.1.length≤m→PutsOk m x.2.2.2.2.2.1→(rounds g s n S H M r x).1.length≤m∧(rounds g s n S H M r x).2.1.length≤m∧PutsOk m (rounds g s n S H M r x).2.2.2.2.2.1:=by
 intro r
 induction r with
 |zero=>exact fun x ha hb hl=>⟨ha,hb,hl⟩
 |succ r ih=>
  intro x ha hb hl
  have le:=nextCommit_le x.1 x.2.1 x.2.2.1 x.2.2.2.1 x.2.2.2.2.1 x.2.2.2.2.2.1 g s n S H M x.2.2.2.2.2.2 ha hb hl hm
  exact ih _ le.1 le.2.1 le.2.2
theorem specRounds_ev (hS:S.length≤1048576)(hB:Bytes M)(hM:M.length≤1048576):∀(r:Nat) (i:Int) (x:List Int×List Int×Int×Int×Int×List S91×Int),i+r=4→0≤i→x.1.length≤1048576→x.2.1.length≤1048576→PutsOk 1048576 x.2.2.2.2.2.1→
  Ev (fun k=>spec_CommitAll.l0 k x.2.2.2.2.2.2 i g s n S H M x.1 x.2.1 x.2.2.1 x.2.2.2.1 x.2.2.2.2.1 x.2.2.2.2.2.1) (out6 (rounds g s n S H M r x)):=by
 intro r
 induction r with
 |zero=>
  intro i x hi h0 ha hb hl
  exact Ev.step (fun k=>rfl) (ev_neg (by omega) ev_some)
 |succ r ih=>
  intro i x hi h0 ha hb hl
  have nx:=specNext_ev x.1 x.2.1 x.2.2.1 x.2.2.2.1 x.2.2.2.2.1 x.2.2.2.2.2.1 g s n S H M x.2.2.2.2.2.2 ha hb (putsOk_le (by omega) hl) (fun _=>hl) hS hB hM
  have le:=nextCommit_le x.1 x.2.1 x.2.2.1 x.2.2.2.1 x.2.2.2.2.1 x.2.2.2.2.2.1 g s n S H M x.2.2.2.2.2.2 ha hb hl (by omega)
  have e1:wrap64 (i+1)=i+1:=w64 (by omega) (by omega)
  refine Ev.step (fun k=>rfl) (ev_pos (by omega) (Ev.bind nx ?_))
  rw[e1]
  exact ih (i+1) _ (by omega) (by omega) le.1 le.2.1 le.2.2
theorem implRounds_ev (hS:S.length≤1048576)(hB:Bytes M)(hM:M.length≤1048576):∀(r:Nat) (i:Int) (x:List Int×List Int×Int×Int×Int×List S91×Int),i+r=4→0≤i→x.1.length≤1048576→x.2.1.length≤1048576→PutsOk 1048576 x.2.2.2.2.2.1→
  Ev (fun k=>impl_CommitAll.l0 k x.2.2.2.2.2.2 i g s n S H M x.1 x.2.1 x.2.2.1 x.2.2.2.1 x.2.2.2.2.1 x.2.2.2.2.2.1) (out6 (rounds g s n S H M r x)):=by
 intro r
 induction r with
 |zero=>
  intro i x hi h0 ha hb hl
  exact Ev.step (fun k=>rfl) (ev_neg (by omega) ev_some)
 |succ r ih=>
  intro i x hi h0 ha hb hl
  have nx:=implNext_ev x.1 x.2.1 x.2.2.1 x.2.2.2.1 x.2.2.2.2.1 x.2.2.2.2.2.1 g s n S H M x.2.2.2.2.2.2 ha hb (putsOk_le (by omega) hl) (fun _=>hl) hS hB hM
  have le:=nextCommit_le x.1 x.2.1 x.2.2.1 x.2.2.2.1 x.2.2.2.2.1 x.2.2.2.2.2.1 g s n S H M x.2.2.2.2.2.2 ha hb hl (by omega)
  have e1:wrap64 (i+1)=i+1:=w64 (by omega) (by omega)
  refine Ev.step (fun k=>rfl) (ev_pos (by omega) (Ev.bind nx ?_))
  rw[e1]
  exact ih (i+1) _ (by omega) (by omega) le.1 le.2.1 le.2.2
theorem specCommitAll_ev (hS:S.length≤1048576)(hB:Bytes M)(hM:M.length≤1048576)(a b:List Int)(c d e:Int)(l:List S91)(ha:a.length≤1048576)(hb:b.length≤1048576)(hl:PutsOk 1048576 l):Ev (fun k=>spec_CommitAll.f k a b c d e l g s n S H M) (commitAll a b c d e l g s n S H M):=by
 unfold spec_CommitAll.f
 refine Ev.bind (specCopy_ev a b c d e l (by omega) (by omega) (putsOk_le (by omega) hl)) ?_
 exact specRounds_ev hS hB hM 4 0 (a,b,c,d,e,l,1) (by omega) (by omega) ha hb hl
theorem implCommitAll_ev (hS:S.length≤1048576)(hB:Bytes M)(hM:M.length≤1048576)(a b:List Int)(c d e:Int)(l:List S91)(ha:a.length≤1048576)(hb:b.length≤1048576)(hl:PutsOk 1048576 l):Ev (fun k=>impl_CommitAll.f k a b c d e l g s n S H M) (commitAll a b c d e l g s n S H M):=by
 unfold impl_CommitAll.f
 refine Ev.bind (implCopy_ev a b c d e l (by omega) (by omega) (putsOk_le (by omega) hl)) ?_
 exact implRounds_ev hS hB hM 4 0 (a,b,c,d,e,l,1) (by omega) (by omega) ha hb hl
end
theorem commitAll_len (a b:List Int)(c d e:Int)(l:List S91)(g s n:Int)(S:List S96)(H:Int)(M:List Int){m:Nat}(ha:a.length≤m)(hb:b.length≤m)(hl:PutsOk m l)(hm:4096≤m):
  (commitAll a b c d e l g s n S H M).1.length≤m∧(commitAll a b c d e l g s n S H M).2.1.length≤m∧PutsOk m (commitAll a b c d e l g s n S H M).2.2.2.2.2:=rounds_le hm 4 (a,b,c,d,e,l,1) ha hb hl
def byteMarks (a:Int)(n:Nat):List Int:=(List.range n).map fun (i:Nat)=>(a+(i:Int)) % 256
theorem byteMarks_length (a:Int)(n:Nat):(byteMarks a n).length=n:=by simp [byteMarks]
theorem byteMarks_rd (a:Int)(n i:Nat)(h:i<n):rd (byteMarks a n) (i:Int)=(a+i) % 256:=by
 unfold rd byteMarks
 simp [List.getD_eq_getElem?_getD,h]
theorem markByteS_ev (l:List Int)(a:Int)(h0:0≤a)(h1:a+l.length≤9223372036854775806):Ev (fun k=>laws_markByteS.f k l a) (a+l.length,byteMarks a l.length):=by
 unfold laws_markByteS.f
 refine loop_up (σ:=List Int×Int) (fun k s i=>laws_markByteS.l0 k s.1 s.2 i) l.length (fun i s=>(s.1.set i (s.2 % 256),s.2+1)) (fun i s=>s.1.length=l.length∧s.2=a+i) (l,a) _ ⟨rfl,by simp⟩ ?_ ?_ ?_
 ·rintro i ⟨x,y⟩ _ ⟨hx,hy⟩
  simp only at hx hy ⊢
  exact⟨by simpa using hx,by omega⟩
 ·rintro i ⟨x,y⟩ r hi ⟨hx,hy⟩ h
  simp only at hx hy h ⊢
  refine Ev.step (fun k=>rfl) ?_
  refine ev_pos (by omega) (ev_pos (by omega) ?_)
  rw[w64 (x:=y+1) (by omega) (by omega),w64 (x:=(i:Int)+1) (by omega) (by omega)]
  simpa using h
 ·rintro⟨hx,hy⟩
  refine Ev.step (fun k=>rfl) ?_
  refine ev_neg (by omega) (ev_eq ev_some ?_)
  have key:∀n,iter n (fun (i:Nat) (s:List Int×Int)=>(s.1.set i (s.2 % 256),s.2+1)) (l,a)=(iter n (fun i (s:List Int)=>s.set i ((a+(i:Int)) % 256)) l,a+(n:Int)):=by
   intro n
   induction n with
   |zero=>simp [iter_zero]
   |succ n ih=>rw[iter_succ,ih,iter_succ];simp;omega
  rw[key,iter_set _ _ _ rfl]
  rfl
theorem heldByteS_ev (a:Int)(n:Nat)(h0:0≤a)(h1:a+n≤9223372036854775806):Ev (fun k=>laws_heldByteS.f k (byteMarks a n) a) (a+n):=by
 unfold laws_heldByteS.f
 have hl:=byteMarks_length a n
 refine loop_up (fun k s i=>laws_heldByteS.l0 k (byteMarks a n) s i) n (fun i s=>s+1) (fun i s=>s=a+i) a _ (by simp) (fun i s _ h=>by omega) ?_ ?_
 ·rintro i s r hi hs h
  refine Ev.step (fun k=>rfl) ?_
  refine ev_pos (by omega) (ev_pos (by omega) (ev_pos (by rw[byteMarks_rd _ _ _ hi,hs]) ?_))
  rw[w64 (x:=s+1) (by omega) (by omega),w64 (by omega) (by omega)]
  exact h
 ·intro hs
  refine Ev.step (fun k=>rfl) ?_
  refine ev_neg (by omega) (ev_eq ev_some hs)
def lens (l:List S91):List Nat:=l.map fun p=>p.f2.length
def mp1 (x:Int)(n:Nat):S91:=⟨x,x+1,byteMarks (x+1+1) n,⟨x+1+1+n,x+1+1+n+1,x+1+1+n+1+1⟩⟩
def putMarks :List Nat→Int→List S91
 |[],_=>[]
 |n :: t,x=>mp1 x n :: putMarks t (x+1+1+n+1+1+1)
def putEnd :List Nat→Int→Int
 |[],x=>x
 |n :: t,x=>putEnd t (x+1+1+n+1+1+1)
theorem putEnd_le :∀(l:List Nat) (x:Int),x≤putEnd l x
 |[],x=>Int.le_refl x
 |n :: t,x=>Int.le_trans (by omega) (putEnd_le t _)
theorem rd_mid (pre:List S91)(p:S91)(t:List S91):rd_T91 (pre++p :: t) (pre.length:Int)=p:=by
 simp only[rd_T91,Int.toNat_natCast,List.getD_eq_getElem?_getD]
 rw[List.getElem?_append_right (Nat.le_refl _),Nat.sub_self]
 rfl
theorem set_mid (pre:List S91)(p q:S91)(t:List S91):(pre++p :: t).set ((pre.length:Nat):Int).toNat q=pre++q :: t:=by
 rw[Int.toNat_natCast,List.set_append_right (h:=Nat.le_refl _),Nat.sub_self]
 rfl
theorem markPutS_key :∀(t pre:List S91) (x:Int),(∀p ∈ t,p.f2.length≤4194304)→0≤x→x+t.length * 4194310≤9223372036854775000→pre.length+t.length≤4194304→
  Ev (fun k=>laws_markPutS.l0 k (pre++t) x (pre.length:Int)) (putEnd (lens t) x,pre++putMarks (lens t) x):=by
 intro t
 induction t with
 |nil=>
  intro pre x _ _ _ _
  exact Ev.step (fun k=>rfl) (ev_neg (by simp) (ev_eq ev_some rfl))
 |cons p t ih=>
  intro pre x hp h0 h1 h2
  have hp1:=hp p (List.mem_cons_self ..)
  simp only[List.length_cons] at h1 h2
  refine Ev.step (fun k=>rfl) (ev_pos (by simp only[List.length_append,List.length_cons];omega) (ev_pos (by omega) ?_))
  simp only[rd_mid]
  rw[w64 (x:=x+1) (by omega) (by omega),w64 (x:=x+1+1) (by omega) (by omega)]
  refine Ev.bind (markByteS_ev p.f2 (x+1+1) (by omega) (by omega)) ?_
  simp only[set_mid]
  rw[w64 (x:=x+1+1+p.f2.length+1) (by omega) (by omega),w64 (x:=x+1+1+p.f2.length+1+1) (by omega) (by omega),w64 (x:=x+1+1+p.f2.length+1+1+1) (by omega) (by omega),w64 (x:=(pre.length:Int)+1) (by omega) (by omega)]
  have:=ih (pre++[mp1 x p.f2.length]) (x+1+1+p.f2.length+1+1+1) (fun q hq=>hp q (List.mem_cons_of_mem _ hq)) (by omega) (by omega) (by simp only[List.length_append,List.length_cons,List.length_nil];omega)
  simp only[List.append_assoc,List.singleton_append,List.length_append,List.length_cons,List.length_nil] at this
  exact this
theorem markPutS_ev (l:List S91)(x:Int)(hl:PutsOk 4194304 l)(h0:0≤x)(h1:x≤4611686018427387904):Ev (fun k=>laws_markPutS.f k l x) (putEnd (lens l) x,putMarks (lens l) x):=
 markPutS_key l [] x hl.2 h0 (by have:=hl.1;omega) (by have:=hl.1;simpa using this)
theorem heldPutS_key :∀(t:List Nat) (pre:List S91) (x:Int),(∀n ∈ t,n≤4194304)→0≤x→x+t.length * 4194310≤9223372036854775000→pre.length+t.length≤4194304→
  Ev (fun k=>laws_heldPutS.l0 k (pre++putMarks t x) x (pre.length:Int)) (putEnd t x):=by
 intro t
 induction t with
 |nil=>
  intro pre x _ _ _ _
  exact Ev.step (fun k=>rfl) (ev_neg (by simp [putMarks]) (ev_eq ev_some rfl))
 |cons n t ih=>
  intro pre x hp h0 h1 h2
  have hp1:=hp n (List.mem_cons_self ..)
  simp only[List.length_cons] at h1 h2
  simp only[putMarks]
  refine Ev.step (fun k=>rfl) (ev_pos (by simp only[List.length_append,List.length_cons];omega) (ev_pos (by omega) ?_))
  simp only[rd_mid]
  simp only[mp1]
  rw[w64 (x:=x+1) (by omega) (by omega),w64 (x:=x+1+1) (by omega) (by omega)]
  refine ev_pos (by trivial) (ev_pos (by trivial) (Ev.bind (heldByteS_ev (x+1+1) n (by omega) (by omega)) (ev_neg (by omega) ?_)))
  rw[w64 (x:=x+1+1+n+1) (by omega) (by omega),w64 (x:=x+1+1+n+1+1) (by omega) (by omega),w64 (x:=x+1+1+n+1+1+1) (by omega) (by omega),w64 (x:=(pre.length:Int)+1) (by omega) (by omega)]
  refine ev_pos (by trivial) (ev_pos (by trivial) (ev_pos (by trivial) ?_))
  have:=ih (pre++[mp1 x n]) (x+1+1+n+1+1+1) (fun q hq=>hp q (List.mem_cons_of_mem _ hq)) (by omega) (by omega) (by simp only[List.length_append,List.length_cons,List.length_nil];omega)
  simp only[List.append_assoc,List.singleton_append,List.length_append,List.length_cons,List.length_nil] at this
  exact this
theorem heldPutS_ev (t:List Nat)(x:Int)(hn:∀n ∈ t,n≤4194304)(hl:t.length≤4194304)(h0:0≤x)(h1:x≤4611686018427387904):Ev (fun k=>laws_heldPutS.f k (putMarks t x) x) (putEnd t x):=
 heldPutS_key t [] x hn h0 (by omega) (by simpa using hl)
theorem lens_ok {l:List S91}(h:PutsOk 4194304 l):(∀n ∈ lens l,n≤4194304)∧(lens l).length≤4194304:=by
 refine⟨fun n hn=>?_,by simpa [lens] using h.1⟩
 obtain⟨p,hp,rfl⟩:=List.mem_map.1 hn
 exact h.2 p hp
def diskEnd (a b:List Int)(l:List S91):Int:=putEnd (lens l) (1+a.length+b.length)
theorem diskEnd_pos (a b:List Int)(l:List S91):¬diskEnd a b l<0:=by
 have:=putEnd_le (lens l) (1+a.length+b.length)
 unfold diskEnd
 omega
theorem putEnd_ub :∀(l:List Nat) (x:Int),(∀n ∈ l,n≤4194304)→putEnd l x≤x+l.length * 4194310
 |[],x,_=>by simp [putEnd]
 |n :: t,x,h=>by
  have h1:=h n (List.mem_cons_self ..)
  have h2:=putEnd_ub t (x+1+1+n+1+1+1) (fun m hm=>h m (List.mem_cons_of_mem _ hm))
  simp only[putEnd,List.length_cons]
  omega
theorem diskEnd_le (a b:List Int)(l:List S91)(ha:a.length≤4194304)(hb:b.length≤4194304)(hl:PutsOk 4194304 l):diskEnd a b l≤4611686018427387904:=by
 have h:=putEnd_ub (lens l) (1+a.length+b.length) (lens_ok hl).1
 have h2:=(lens_ok hl).2
 unfold diskEnd
 omega
def diskRows (a b:List Int)(l:List S91):List Int×List Int×List S91:=(byteMarks 1 a.length,byteMarks (1+a.length) b.length,putMarks (lens l) (1+a.length+b.length))
theorem markDisk_ev (a b:List Int)(c d e:Int)(l:List S91)(ha:a.length≤4194304)(hb:b.length≤4194304)(hl:PutsOk 4194304 l):
  Ev (fun k=>laws_markDisk.f k a b c d e l 1) (diskEnd a b l,diskRows a b l):=by
 unfold laws_markDisk.f
 exact Ev.bind (markByteS_ev a 1 (by omega) (by omega)) (Ev.bind (markByteS_ev b (1+a.length) (by omega) (by omega)) (Ev.bind (markPutS_ev l (1+a.length+b.length) hl (by omega) (by omega)) ev_some))
theorem heldDisk_ev (a b:List Int)(c d e:Int)(l:List S91)(ha:a.length≤4194304)(hb:b.length≤4194304)(hl:PutsOk 4194304 l):
  Ev (fun k=>laws_heldDisk.f k (diskRows a b l).1 (diskRows a b l).2.1 c d e (diskRows a b l).2.2 1) (diskEnd a b l):=by
 unfold laws_heldDisk.f
 refine Ev.bind (heldByteS_ev 1 a.length (by omega) (by omega)) (ev_neg (by omega) (Ev.bind (heldByteS_ev (1+a.length) b.length (by omega) (by omega)) (ev_neg (by omega) ?_)))
 exact Ev.bind (heldPutS_ev (lens l) (1+a.length+b.length) (lens_ok hl).1 (lens_ok hl).2 (by omega) (by omega)) (ev_neg (diskEnd_pos a b l) ev_some)
theorem szBuild_eq (h:Int)(m:List Int)(a:Int)(hl:m.length≤9223372036854775807)(h0:0≤a)(h1:a≤1048576):laws_szBuild.f h m a=some (if a<(m.length:Int) then (-1:Int) else a - (m.length:Int)):=by
 unfold laws_szBuild.f laws_szByteS.f
 rw[w64 (by omega) (by omega)]
 by_cases r:a<(m.length:Int)
 ·rw[if_pos r,if_pos (by omega)]
  simp only[Option.bind_some]
  rw[if_pos (by omega)]
 ·rw[if_neg r,if_neg (by omega)]
  simp only[Option.bind_some]
  rw[if_neg (by omega)]
theorem toBuild_ev (h:Int)(m:List Int)(hl:m.length≤1048576):Ev (fun k=>laws_toBuild.f k h m) (h,m):=by
 unfold laws_toBuild.f
 exact Ev.bind (toByteS_ev m hl) ev_some
theorem eqBuild_refl (h:Int)(m:List Int)(hl:m.length≤9223372036854775806):Ev (fun k=>laws_eqBuild.f k h m h m) true:=by
 unfold laws_eqBuild.f
 exact ev_pos rfl (Ev.bind (eqByteS_ev m m hl) (ev_pos (by simp) ev_some))
theorem eqSum_refl (a b:Int):laws_eqSum.f a b a b=some true:=by
 unfold laws_eqSum.f
 rw[if_pos rfl,if_pos rfl]
theorem eqSumS_refl (a:List S96)(ha:a.length≤9223372036854775806):Ev (fun k=>laws_eqSumS.f k a a) true:=by
 unfold laws_eqSumS.f
 refine ev_pos rfl ?_
 refine ev_eq (loop_all (fun k i=>laws_eqSumS.l0 k a a i) a.length (fun _=>true) ?_ ?_ ?_) (by simp)
 ·intro i r hi _ h
  refine Ev.step (fun k=>rfl) ?_
  refine ev_pos (by omega) (ev_pos (by omega) (ev_pos (by omega) ?_))
  refine ev_then (eqSum_refl _ _) (ev_true ?_)
  rw[w64 (by omega) (by omega)]
  exact h
 ·intro i hi hp
  cases hp
 ·refine Ev.step (fun k=>rfl) ?_
  exact ev_neg (by omega) ev_some
theorem eqManifest_refl (a b c:Int)(l:List S96)(hl:l.length≤9223372036854775806):Ev (fun k=>laws_eqManifest.f k a b c l a b c l) true:=by
 unfold laws_eqManifest.f
 exact ev_pos rfl (ev_pos rfl (ev_pos rfl (Ev.bind (eqSumS_refl l hl) (ev_true ev_some))))
def sumOf_ (x:S98):S96:=⟨x.f0,x.f1⟩
theorem szSumS_eq (l:List S98)(a:Int)(hl:l.length≤9223372036854775807)(h0:0≤a)(h1:a≤1048576):laws_szSumS.f l a=some (if a<(l.length:Int) then (-1:Int) else a - (l.length:Int)):=by
 unfold laws_szSumS.f
 rw[w64 (by omega) (by omega)]
 by_cases h:a<l.length
 ·rw[if_pos (by omega),if_pos h]
 ·rw[if_neg (by omega),if_neg h]
theorem szManifest_eq (b c d:Int)(l:List S98)(a:Int)(hl:l.length≤9223372036854775807)(h0:0≤a)(h1:a≤1048576):laws_szManifest.f b c d l a=some (if a<(l.length:Int) then (-1:Int) else a - (l.length:Int)):=by
 unfold laws_szManifest.f
 rw[szSumS_eq l a hl h0 h1]
 simp only[Option.bind_some]
 by_cases h:a<(l.length:Int)
 ·rw[if_pos h];rfl
 ·rw[if_neg h,if_neg (by omega)]
theorem toSumS_ev (l:List S98)(hl:l.length≤1048576):Ev (fun k=>laws_toSumS.f k l) (l.map sumOf_):=by
 unfold laws_toSumS.f
 refine ev_pos (by omega) (ev_pos (by simp;omega) ?_)
 refine loop_up (fun k s i=>laws_toSumS.l0 k l s i) l.length (fun i (s:List S96)=>s.set i (sumOf_ (l.getD i z98))) (fun _ s=>s.length=l.length) _ _ (by simp) (fun i s _ h=>by simpa using h) ?_ ?_
 ·intro i s r hi hs h
  refine Ev.step (fun k=>rfl) ?_
  refine ev_pos (by omega) (ev_pos (by omega) ?_)
  refine ev_then rfl ?_
  refine ev_pos (by omega) ?_
  rw[w64 (by omega) (by omega)]
  exact h
 ·intro hs
  refine Ev.step (fun k=>rfl) ?_
  refine ev_neg (by omega) (ev_eq ev_some ?_)
  rw[iter_set l.length (fun i=>sumOf_ (l.getD i z98)) _ (by simp)]
  exact map_range_get l _ sumOf_
theorem toManifest_ev (a b c:Int)(l:List S98)(hl:l.length≤1048576):Ev (fun k=>laws_toManifest.f k a b c l) (a,b,c,l.map sumOf_):=by
 unfold laws_toManifest.f
 exact Ev.bind (toSumS_ev l hl) ev_some
def sumMark (a:Int):S96:=⟨a,a+1⟩
def sumMarks (a:Int)(n:Nat):List S96:=(List.range n).map fun (i:Nat)=>sumMark (a+2 * (i:Int))
theorem rdSum_set (l:List S96)(i:Nat)(x:S96)(h:i<l.length):rd_T96 (l.set i x) (i:Int)=x:=by
 unfold rd_T96
 simp [List.getD_eq_getElem?_getD,h]
theorem markSumS_ev (l:List S96)(a:Int)(h0:0≤a)(h1:a+2 * l.length≤9223372036854775806):Ev (fun k=>laws_markSumS.f k l a) (a+2 * l.length,sumMarks a l.length):=by
 unfold laws_markSumS.f
 refine loop_up (σ:=List S96×Int) (fun k s i=>laws_markSumS.l0 k s.1 s.2 i) l.length (fun i s=>(s.1.set i (sumMark s.2),s.2+2)) (fun i s=>s.1.length=l.length∧s.2=a+2 * i) (l,a) _ ⟨rfl,by simp⟩ ?_ ?_ ?_
 ·rintro i ⟨x,y⟩ _ ⟨hx,hy⟩
  simp only at hx hy ⊢
  exact⟨by simpa using hx,by omega⟩
 ·rintro i ⟨x,y⟩ r hi ⟨hx,hy⟩ h
  simp only at hx hy h ⊢
  refine Ev.step (fun k=>rfl) ?_
  refine ev_pos (by omega) (ev_pos (by omega) ?_)
  rw[w64 (x:=y+1) (by omega) (by omega),w64 (x:=y+1+1) (by omega) (by omega),w64 (x:=(i:Int)+1) (by omega) (by omega)]
  simp only[Option.bind_some,Int.toNat_natCast]
  rw[rdSum_set x i _ (by omega)]
  simp only[List.set_set]
  have e:(⟨y,y+1⟩:S96)=sumMark y:=rfl
  rw[e,show y+1+1=y+2 by omega]
  exact h
 ·rintro⟨hx,hy⟩
  refine Ev.step (fun k=>rfl) ?_
  refine ev_neg (by omega) (ev_eq ev_some ?_)
  have key:∀n,iter n (fun (i:Nat) (s:List S96×Int)=>(s.1.set i (sumMark s.2),s.2+2)) (l,a)=(iter n (fun i (s:List S96)=>s.set i (sumMark (a+2 * (i:Int)))) l,a+2 * (n:Int)):=by
   intro n
   induction n with
   |zero=>simp [iter_zero]
   |succ n ih=>rw[iter_succ,ih,iter_succ];simp;omega
  rw[key,iter_set _ _ _ rfl]
  rfl
theorem markManifest_ev (b c d:Int)(l:List S96)(a:Int)(h0:0≤a)(h1:a+2 * l.length≤9223372036854775806):Ev (fun k=>laws_markManifest.f k b c d l a) (a+2 * l.length,sumMarks a l.length):=by
 unfold laws_markManifest.f
 exact Ev.bind (markSumS_ev l a h0 h1) ev_some
end Go.Proofs.YtjgmkkogmfogbaaGreat.Pb
namespace Go.Proofs.YtjgmkkogmfogbaaGreat.Pure
open Go.RowKit Go.Proofs.YtjgmkkogmfogbaaGreat Go.Proofs.YtjgmkkogmfogbaaGreat.Q Go.Proofs.YtjgmkkogmfogbaaGreat.Pb Go.Proofs.YtjgmkkogmfogbaaGreatW.PrintWords Go.Proofs.YtjgmkkogmfogbaaGreatW.PrintLast
set_option linter.unusedVariables false
set_option linter.unusedSimpArgs false
theorem bytes_good {l:List Int}(g:(Opn.Each (fun n:Int=>(Lit.int .u8 n).wf=true)) l):Bytes l:=by
 intro x hx
 have h:=g.2 x hx
 simp [Lit.wf,IntKind.min,IntKind.max,IntKind.signed,IntKind.bits] at h
 omega
theorem markBuild_ev (h:Int)(m:List Int)(x:Int)(h0:0≤x)(h1:x+m.length≤9223372036854775806):Ev (fun k=>laws_markBuild.f k h m x) (x+m.length,byteMarks x m.length):=by
 unfold laws_markBuild.f
 exact Ev.bind (markByteS_ev m x h0 h1) ev_some
theorem FnExactCommitAll :∀(x0:S27) (x1:S30) (x2:S32),good27 x0→good30 x1→good32 x2→∃k,laws_FnExactCommitAll.f k x0.f0 x0.f1 x0.f2.f0 x0.f2.f1 x0.f2.f2 x0.f3 x1.f0 x1.f1 x1.f2 x1.f3 x2.f0 x2.f1=some true:=by
 intro x0 x1 x2 g0 g1 g2
 refine Ev.rounds ?_
 unfold laws_FnExactCommitAll.f
 obtain⟨r,h1,h2,h3⟩:=szDisk_ev x0.f0 x0.f1 x0.f2.f0 x0.f2.f1 x0.f2.f2 x0.f3 1048576 (goodPuts_len x0 g0).1 (goodPuts_len x0 g0).2.1 (goodPuts_len x0 g0).2.2.1 (goodPuts_len x0 g0).2.2.2 (by omega) (by omega)
 refine Ev.bind h1 (ev_if (fun _=>ev_some) (fun h=>?_))
 have hf:=h3 (by omega)
 rw[szManifest_eq _ _ _ _ r g1.2.2.2.1 (by omega) (by omega)]
 refine Ev.bind ev_some (ev_if (fun _=>ev_some) (fun h'=>?_))
 have hS:(x1.f3.length:Int)≤1048576:=by split at h'<;>omega
 have nS:¬r<(x1.f3.length:Int):=by split at h'<;>omega
 rw[if_neg nS] at h' ⊢
 rw[szBuild_eq _ _ _ g2.2.1 (by omega) (by omega)]
 refine Ev.bind ev_some (ev_if (fun _=>ev_some) (fun h''=>?_))
 have hM:(x2.f1.length:Int)≤1048576:=by split at h''<;>omega
 clear h' h''
 have hby:=bytes_good g2.2
 have m0:=toDisk_ev x0.f0 x0.f1 x0.f2.f0 x0.f2.f1 x0.f2.f2 x0.f3 hf
 have m1:=toManifest_ev x1.f0 x1.f1 x1.f2 x1.f3 (by omega)
 have m2:=toBuild_ev x2.f0 x2.f1 (by omega)
 have hp:=putsOk_map hf.2.2
 have ha:=hf.1
 have hb:=hf.2.1
 have s0:=specCommitAll_ev (g:=x1.f0) (s:=x1.f1) (n:=x1.f2) (S:=x1.f3.map sumOf_) (H:=x2.f0) (by simp;omega) hby (by omega) x0.f0 x0.f1 x0.f2.f0 x0.f2.f1 x0.f2.f2 (x0.f3.map putOf_) ha hb hp
 have i0:=implCommitAll_ev (g:=x1.f0) (s:=x1.f1) (n:=x1.f2) (S:=x1.f3.map sumOf_) (H:=x2.f0) (by simp;omega) hby (by omega) x0.f0 x0.f1 x0.f2.f0 x0.f2.f1 x0.f2.f2 (x0.f3.map putOf_) ha hb hp
 obtain⟨za,zb,zl⟩:=commitAll_len x0.f0 x0.f1 x0.f2.f0 x0.f2.f1 x0.f2.f2 (x0.f3.map putOf_) x1.f0 x1.f1 x1.f2 (x1.f3.map sumOf_) x2.f0 x2.f1 ha hb hp (by omega)
 generalize commitAll x0.f0 x0.f1 x0.f2.f0 x0.f2.f1 x0.f2.f2 (x0.f3.map putOf_) x1.f0 x1.f1 x1.f2 (x1.f3.map sumOf_) x2.f0 x2.f1=z at za zb zl s0 i0
 have ez:=eqDisk_refl z.1 z.2.1 z.2.2.1 z.2.2.2.1 z.2.2.2.2.1 z.2.2.2.2.2 (by omega) (by omega) (putsOk_le (by omega) zl)
 have ei:=eqDisk_refl x0.f0 x0.f1 x0.f2.f0 x0.f2.f1 x0.f2.f2 (x0.f3.map putOf_) (by omega) (by omega) (putsOk_le (by omega) hp)
 have mz:=markDisk_ev z.1 z.2.1 z.2.2.1 z.2.2.2.1 z.2.2.2.2.1 z.2.2.2.2.2 (by omega) (by omega) (putsOk_le (by omega) zl)
 have hz:=heldDisk_ev z.1 z.2.1 z.2.2.1 z.2.2.2.1 z.2.2.2.2.1 z.2.2.2.2.2 (by omega) (by omega) (putsOk_le (by omega) zl)
 have mi:=markDisk_ev x0.f0 x0.f1 x0.f2.f0 x0.f2.f1 x0.f2.f2 (x0.f3.map putOf_) (by omega) (by omega) (putsOk_le (by omega) hp)
 have nz:=diskEnd_pos z.1 z.2.1 z.2.2.2.2.2
 have ni:=diskEnd_pos x0.f0 x0.f1 (x0.f3.map putOf_)
 have ui:=diskEnd_le x0.f0 x0.f1 (x0.f3.map putOf_) (by omega) (by omega) (putsOk_le (by omega) hp)
 generalize diskEnd z.1 z.2.1 z.2.2.2.2.2=ne at mz hz nz
 generalize diskRows z.1 z.2.1 z.2.2.2.2.2=ro at mz hz
 generalize diskEnd x0.f0 x0.f1 (x0.f3.map putOf_)=ie at mi ni ui
 refine Ev.bind m0 (Ev.bind m1 (Ev.bind m2 (Ev.bind s0 (Ev.bind m0 (Ev.bind m1 (Ev.bind m2 (Ev.bind i0 (Ev.bind ez (ev_pos rfl ?_)))))))))
 refine Ev.bind m0 (Ev.bind ei (ev_pos rfl ?_))
 refine Ev.bind m1 (Ev.bind (eqManifest_refl _ _ _ _ (by simp;omega)) (ev_pos rfl ?_))
 refine Ev.bind m2 (Ev.bind (eqBuild_refl _ _ (by simp only;omega)) (ev_pos rfl ?_))
 refine Ev.bind mi (Ev.bind (markManifest_ev _ _ _ _ ie (by omega) (by simp;omega)) ?_)
 refine Ev.bind (markBuild_ev _ _ _ (by simp only;omega) (by simp;omega)) ?_
 refine ev_neg (by simp;omega) (Ev.bind ez (ev_pos rfl ?_))
 refine Ev.bind mz (Ev.bind hz (ev_neg nz (ev_pos rfl ?_)))
 refine Ev.bind m0 (Ev.bind m1 (Ev.bind m2 (Ev.bind i0 (Ev.bind ez (ev_pos rfl ?_)))))
 exact Ev.bind hz (ev_neg nz (ev_pos rfl ev_some))
end Go.Proofs.YtjgmkkogmfogbaaGreat.Pure
