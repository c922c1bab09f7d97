/- Parts of memory, each between two block numbers, no two of which meet; a region that draws its order, walked once for each operation. Plain lemmas; no condition. -/
import Derived.Test.YtjgmkkogmfogbaaGreatSq
import Derived.Test.YtjgmkkogmfogbaaGreatWWords
import Derived.Laws.Rows
namespace Go.Proofs.YtjgmkkogmfogbaaGreat.Q
open Go Go.RowKit Go.Proofs.YtjgmkkogmfogbaaGreatW.PrintWords Go.Proofs.YtjgmkkogmfogbaaGreatW.PrintLast
set_option linter.unusedVariables false
set_option linter.unusedSimpArgs false
structure Itm where
 a:Nat
 b:Nat
 P:World→Prop
 st:∀{w w':World},(∀k,a≤k→k<b→w'.heap[k]?=w.heap[k]?)→P w→P w'
def Dj (a b:Nat):List Itm→Prop
 |[]=>True
 |J :: L=>(J.b≤a∨b≤J.a)∧Dj a b L
def Sep (base:Nat)(w:World):List Itm→Prop
 |[]=>True
 |I :: L=>((base≤I.a∧I.a≤I.b∧I.b≤w.heap.size∧I.P w)∧Dj I.a I.b L)∧Sep base w L
def KeptR (a b:Nat)(w w':World):Prop:=w.heap.size≤w'.heap.size∧∀k,k<w.heap.size→(k<a∨b≤k)→w'.heap[k]?=w.heap[k]?
theorem KeptR.of_kept {a b:Nat}{w w':World}{S:Nat→Prop}(h:Kept w w' S)(hS:∀k,S k→a≤k∧k<b):KeptR a b w w':=
 ⟨h.1,fun k hk hn=>h.2 k hk (fun q=>by have:=hS k q;omega)⟩
section
variable {base : Nat} {w w' : World} {I I' : Itm} {L : List Itm}
theorem Dj.of_sep {c d:Nat}:∀{L:List Itm},Sep base w L→w.heap.size≤c→Dj c d L
 |[],_,_=>trivial
 |J :: L,h,hc=>⟨.inl (by have:=h.1.1.2.2.1;omega),Dj.of_sep h.2 hc⟩
theorem Sep.below :∀{L:List Itm},Sep base w L→Below w.heap.size w w'→Sep base w' L
 |[],_,_=>trivial
 |J :: L,h,hb=>⟨⟨⟨h.1.1.1,h.1.1.2.1,Nat.le_trans h.1.1.2.2.1 hb.size,J.st (fun k _ hk=>hb.block k (Nat.lt_of_lt_of_le hk h.1.1.2.2.1)) h.1.1.2.2.2⟩,h.1.2⟩,Sep.below h.2 hb⟩
theorem Sep.keptR {a b:Nat}:∀{L:List Itm},Sep base w L→KeptR a b w w'→Dj a b L→Sep base w' L
 |[],_,_,_=>trivial
 |J :: L,h,hb,hd=>⟨⟨⟨h.1.1.1,h.1.1.2.1,Nat.le_trans h.1.1.2.2.1 hb.1,J.st (fun k h0 hk=>hb.2 k (Nat.lt_of_lt_of_le hk h.1.1.2.2.1) (by rcases hd.1 with q|q<;>omega)) h.1.1.2.2.2⟩,h.1.2⟩,Sep.keptR h.2 hb hd.2⟩
theorem Sep.add (h:Sep base w L)(hb:Below w.heap.size w w')(hB:base≤w.heap.size)(I:Itm)(ha:w.heap.size≤I.a)(hab:I.a≤I.b)(hI:I.b≤w'.heap.size)(hP:I.P w'):Sep base w' (I :: L):=
 ⟨⟨⟨Nat.le_trans hB ha,hab,hI,hP⟩,Dj.of_sep h ha⟩,h.below hb⟩
theorem Sep.put (h:Sep base w (I :: L))(hk:KeptR I.a I.b w w')(I':Itm)(ha:I'.a=I.a)(hb:I'.b=I.b)(hP:I'.P w'):Sep base w' (I' :: L):=
 ⟨⟨⟨by rw[ha];exact h.1.1.1,by rw[ha,hb];exact h.1.1.2.1,by rw[hb];exact Nat.le_trans h.1.1.2.2.1 hk.1,hP⟩,by rw[ha,hb];exact h.1.2⟩,h.2.keptR hk h.1.2⟩
theorem Sep.swap {I J:Itm}(h:Sep base w (I :: J :: L)):Sep base w (J :: I :: L):=⟨⟨h.2.1.1,⟨h.1.2.1.symm,h.2.1.2⟩⟩,⟨⟨h.1.1,h.1.2.2⟩,h.2.2⟩⟩
theorem Sep.cons_map {L L':List Itm}(hd:∀a b,Dj a b L→Dj a b L')(hs:Sep base w L→Sep base w L')(h:Sep base w (I :: L)):Sep base w (I :: L'):=⟨⟨h.1.1,hd _ _ h.1.2⟩,hs h.2⟩
theorem Sep.drop (h:Sep base w (I :: L)):Sep base w L:=h.2
end
theorem Sep.p0 {base:Nat}{w:World}{x0:Itm}{L:List Itm}(h:Sep base w (x0 :: L)):x0.P w:=h.1.1.2.2.2
theorem Sep.r0 {base:Nat}{w:World}{x0:Itm}{L:List Itm}(h:Sep base w (x0 :: L)):base≤x0.a∧x0.a≤x0.b∧x0.b≤w.heap.size:=⟨h.1.1.1,h.1.1.2.1,h.1.1.2.2.1⟩
theorem Sep.p1 {base:Nat}{w:World}{x0 x1:Itm}{L:List Itm}(h:Sep base w (x0 :: x1 :: L)):x1.P w:=h.2.1.1.2.2.2
theorem Sep.r1 {base:Nat}{w:World}{x0 x1:Itm}{L:List Itm}(h:Sep base w (x0 :: x1 :: L)):base≤x1.a∧x1.a≤x1.b∧x1.b≤w.heap.size:=⟨h.2.1.1.1,h.2.1.1.2.1,h.2.1.1.2.2.1⟩
theorem Sep.p2 {base:Nat}{w:World}{x0 x1 x2:Itm}{L:List Itm}(h:Sep base w (x0 :: x1 :: x2 :: L)):x2.P w:=h.2.2.1.1.2.2.2
theorem Sep.r2 {base:Nat}{w:World}{x0 x1 x2:Itm}{L:List Itm}(h:Sep base w (x0 :: x1 :: x2 :: L)):base≤x2.a∧x2.a≤x2.b∧x2.b≤w.heap.size:=⟨h.2.2.1.1.1,h.2.2.1.1.2.1,h.2.2.1.1.2.2.1⟩
theorem Sep.p3 {base:Nat}{w:World}{x0 x1 x2 x3:Itm}{L:List Itm}(h:Sep base w (x0 :: x1 :: x2 :: x3 :: L)):x3.P w:=h.2.2.2.1.1.2.2.2
theorem Sep.r3 {base:Nat}{w:World}{x0 x1 x2 x3:Itm}{L:List Itm}(h:Sep base w (x0 :: x1 :: x2 :: x3 :: L)):base≤x3.a∧x3.a≤x3.b∧x3.b≤w.heap.size:=⟨h.2.2.2.1.1.1,h.2.2.2.1.1.2.1,h.2.2.2.1.1.2.2.1⟩
theorem Sep.p4 {base:Nat}{w:World}{x0 x1 x2 x3 x4:Itm}{L:List Itm}(h:Sep base w (x0 :: x1 :: x2 :: x3 :: x4 :: L)):x4.P w:=h.2.2.2.2.1.1.2.2.2
theorem Sep.r4 {base:Nat}{w:World}{x0 x1 x2 x3 x4:Itm}{L:List Itm}(h:Sep base w (x0 :: x1 :: x2 :: x3 :: x4 :: L)):base≤x4.a∧x4.a≤x4.b∧x4.b≤w.heap.size:=⟨h.2.2.2.2.1.1.1,h.2.2.2.2.1.1.2.1,h.2.2.2.2.1.1.2.2.1⟩
theorem Sep.p5 {base:Nat}{w:World}{x0 x1 x2 x3 x4 x5:Itm}{L:List Itm}(h:Sep base w (x0 :: x1 :: x2 :: x3 :: x4 :: x5 :: L)):x5.P w:=h.2.2.2.2.2.1.1.2.2.2
theorem Sep.r5 {base:Nat}{w:World}{x0 x1 x2 x3 x4 x5:Itm}{L:List Itm}(h:Sep base w (x0 :: x1 :: x2 :: x3 :: x4 :: x5 :: L)):base≤x5.a∧x5.a≤x5.b∧x5.b≤w.heap.size:=⟨h.2.2.2.2.2.1.1.1,h.2.2.2.2.2.1.1.2.1,h.2.2.2.2.2.1.1.2.2.1⟩
theorem Sep.p6 {base:Nat}{w:World}{x0 x1 x2 x3 x4 x5 x6:Itm}{L:List Itm}(h:Sep base w (x0 :: x1 :: x2 :: x3 :: x4 :: x5 :: x6 :: L)):x6.P w:=h.2.2.2.2.2.2.1.1.2.2.2
theorem Sep.r6 {base:Nat}{w:World}{x0 x1 x2 x3 x4 x5 x6:Itm}{L:List Itm}(h:Sep base w (x0 :: x1 :: x2 :: x3 :: x4 :: x5 :: x6 :: L)):base≤x6.a∧x6.a≤x6.b∧x6.b≤w.heap.size:=⟨h.2.2.2.2.2.2.1.1.1,h.2.2.2.2.2.2.1.1.2.1,h.2.2.2.2.2.2.1.1.2.2.1⟩
theorem Sep.p7 {base:Nat}{w:World}{x0 x1 x2 x3 x4 x5 x6 x7:Itm}{L:List Itm}(h:Sep base w (x0 :: x1 :: x2 :: x3 :: x4 :: x5 :: x6 :: x7 :: L)):x7.P w:=h.2.2.2.2.2.2.2.1.1.2.2.2
theorem Sep.r7 {base:Nat}{w:World}{x0 x1 x2 x3 x4 x5 x6 x7:Itm}{L:List Itm}(h:Sep base w (x0 :: x1 :: x2 :: x3 :: x4 :: x5 :: x6 :: x7 :: L)):base≤x7.a∧x7.a≤x7.b∧x7.b≤w.heap.size:=⟨h.2.2.2.2.2.2.2.1.1.1,h.2.2.2.2.2.2.2.1.1.2.1,h.2.2.2.2.2.2.2.1.1.2.2.1⟩
theorem Sep.p8 {base:Nat}{w:World}{x0 x1 x2 x3 x4 x5 x6 x7 x8:Itm}{L:List Itm}(h:Sep base w (x0 :: x1 :: x2 :: x3 :: x4 :: x5 :: x6 :: x7 :: x8 :: L)):x8.P w:=h.2.2.2.2.2.2.2.2.1.1.2.2.2
theorem Sep.p9 {base:Nat}{w:World}{x0 x1 x2 x3 x4 x5 x6 x7 x8 x9:Itm}{L:List Itm}(h:Sep base w (x0 :: x1 :: x2 :: x3 :: x4 :: x5 :: x6 :: x7 :: x8 :: x9 :: L)):x9.P w:=h.2.2.2.2.2.2.2.2.2.1.1.2.2.2
theorem Sep.p11 {base:Nat}{w:World}{x0 x1 x2 x3 x4 x5 x6 x7 x8 x9 x10 x11:Itm}{L:List Itm}(h:Sep base w (x0 :: x1 :: x2 :: x3 :: x4 :: x5 :: x6 :: x7 :: x8 :: x9 :: x10 :: x11 :: L)):x11.P w:=h.2.2.2.2.2.2.2.2.2.2.2.1.1.2.2.2
theorem Sep.p12 {base:Nat}{w:World}{x0 x1 x2 x3 x4 x5 x6 x7 x8 x9 x10 x11 x12:Itm}{L:List Itm}(h:Sep base w (x0 :: x1 :: x2 :: x3 :: x4 :: x5 :: x6 :: x7 :: x8 :: x9 :: x10 :: x11 :: x12 :: L)):x12.P w:=h.2.2.2.2.2.2.2.2.2.2.2.2.1.1.2.2.2
theorem Sep.p13 {base:Nat}{w:World}{x0 x1 x2 x3 x4 x5 x6 x7 x8 x9 x10 x11 x12 x13:Itm}{L:List Itm}(h:Sep base w (x0 :: x1 :: x2 :: x3 :: x4 :: x5 :: x6 :: x7 :: x8 :: x9 :: x10 :: x11 :: x12 :: x13 :: L)):x13.P w:=h.2.2.2.2.2.2.2.2.2.2.2.2.2.1.1.2.2.2
theorem Sep.p14 {base:Nat}{w:World}{x0 x1 x2 x3 x4 x5 x6 x7 x8 x9 x10 x11 x12 x13 x14:Itm}{L:List Itm}(h:Sep base w (x0 :: x1 :: x2 :: x3 :: x4 :: x5 :: x6 :: x7 :: x8 :: x9 :: x10 :: x11 :: x12 :: x13 :: x14 :: L)):x14.P w:=h.2.2.2.2.2.2.2.2.2.2.2.2.2.2.1.1.2.2.2
theorem Sep.p15 {base:Nat}{w:World}{x0 x1 x2 x3 x4 x5 x6 x7 x8 x9 x10 x11 x12 x13 x14 x15:Itm}{L:List Itm}(h:Sep base w (x0 :: x1 :: x2 :: x3 :: x4 :: x5 :: x6 :: x7 :: x8 :: x9 :: x10 :: x11 :: x12 :: x13 :: x14 :: x15 :: L)):x15.P w:=h.2.2.2.2.2.2.2.2.2.2.2.2.2.2.2.1.1.2.2.2
theorem Sep.p16 {base:Nat}{w:World}{x0 x1 x2 x3 x4 x5 x6 x7 x8 x9 x10 x11 x12 x13 x14 x15 x16:Itm}{L:List Itm}(h:Sep base w (x0 :: x1 :: x2 :: x3 :: x4 :: x5 :: x6 :: x7 :: x8 :: x9 :: x10 :: x11 :: x12 :: x13 :: x14 :: x15 :: x16 :: L)):x16.P w:=h.2.2.2.2.2.2.2.2.2.2.2.2.2.2.2.2.1.1.2.2.2
theorem Sep.p17 {base:Nat}{w:World}{x0 x1 x2 x3 x4 x5 x6 x7 x8 x9 x10 x11 x12 x13 x14 x15 x16 x17:Itm}{L:List Itm}(h:Sep base w (x0 :: x1 :: x2 :: x3 :: x4 :: x5 :: x6 :: x7 :: x8 :: x9 :: x10 :: x11 :: x12 :: x13 :: x14 :: x15 :: x16 :: x17 :: L)):x17.P w:=h.2.2.2.2.2.2.2.2.2.2.2.2.2.2.2.2.2.1.1.2.2.2
theorem Sep.p18 {base:Nat}{w:World}{x0 x1 x2 x3 x4 x5 x6 x7 x8 x9 x10 x11 x12 x13 x14 x15 x16 x17 x18:Itm}{L:List Itm}(h:Sep base w (x0 :: x1 :: x2 :: x3 :: x4 :: x5 :: x6 :: x7 :: x8 :: x9 :: x10 :: x11 :: x12 :: x13 :: x14 :: x15 :: x16 :: x17 :: x18 :: L)):x18.P w:=h.2.2.2.2.2.2.2.2.2.2.2.2.2.2.2.2.2.2.1.1.2.2.2
theorem Sep.p19 {base:Nat}{w:World}{x0 x1 x2 x3 x4 x5 x6 x7 x8 x9 x10 x11 x12 x13 x14 x15 x16 x17 x18 x19:Itm}{L:List Itm}(h:Sep base w (x0 :: x1 :: x2 :: x3 :: x4 :: x5 :: x6 :: x7 :: x8 :: x9 :: x10 :: x11 :: x12 :: x13 :: x14 :: x15 :: x16 :: x17 :: x18 :: x19 :: L)):x19.P w:=h.2.2.2.2.2.2.2.2.2.2.2.2.2.2.2.2.2.2.2.1.1.2.2.2
theorem Sep.p20 {base:Nat}{w:World}{x0 x1 x2 x3 x4 x5 x6 x7 x8 x9 x10 x11 x12 x13 x14 x15 x16 x17 x18 x19 x20:Itm}{L:List Itm}(h:Sep base w (x0 :: x1 :: x2 :: x3 :: x4 :: x5 :: x6 :: x7 :: x8 :: x9 :: x10 :: x11 :: x12 :: x13 :: x14 :: x15 :: x16 :: x17 :: x18 :: x19 :: x20 :: L)):x20.P w:=h.2.2.2.2.2.2.2.2.2.2.2.2.2.2.2.2.2.2.2.2.1.1.2.2.2
theorem Dj.f1 {a b:Nat}{I J:Itm}{L:List Itm}(h:Dj a b (I :: J :: L)):Dj a b (J :: I :: L):=⟨h.2.1,h.1,h.2.2⟩
theorem Sep.f0 {base:Nat}{w:World}{x0:Itm}{L:List Itm}(h:Sep base w (x0 :: L)):Sep base w (x0 :: L):=h
theorem Sep.f1 {base:Nat}{w:World}{x0 x1:Itm}{L:List Itm}(h:Sep base w (x0 :: x1 :: L)):Sep base w (x1 :: x0 :: L):=h.swap
theorem Dj.f2 {a b:Nat}{x0 x1 x2:Itm}{L:List Itm}(h:Dj a b (x0 :: x1 :: x2 :: L)):Dj a b (x2 :: x0 :: x1 :: L):=Dj.f1 (⟨h.1,Dj.f1 h.2⟩:Dj a b (x0 :: x2 :: x1 :: L))
theorem Sep.f2 {base:Nat}{w:World}{x0 x1 x2:Itm}{L:List Itm}(h:Sep base w (x0 :: x1 :: x2 :: L)):Sep base w (x2 :: x0 :: x1 :: L):=(Sep.cons_map (I:=x0) (fun _ _=>Dj.f1) Sep.f1 h).swap
theorem Dj.f3 {a b:Nat}{x0 x1 x2 x3:Itm}{L:List Itm}(h:Dj a b (x0 :: x1 :: x2 :: x3 :: L)):Dj a b (x3 :: x0 :: x1 :: x2 :: L):=Dj.f1 (⟨h.1,Dj.f2 h.2⟩:Dj a b (x0 :: x3 :: x1 :: x2 :: L))
theorem Sep.f3 {base:Nat}{w:World}{x0 x1 x2 x3:Itm}{L:List Itm}(h:Sep base w (x0 :: x1 :: x2 :: x3 :: L)):Sep base w (x3 :: x0 :: x1 :: x2 :: L):=(Sep.cons_map (I:=x0) (fun _ _=>Dj.f2) Sep.f2 h).swap
theorem Dj.f4 {a b:Nat}{x0 x1 x2 x3 x4:Itm}{L:List Itm}(h:Dj a b (x0 :: x1 :: x2 :: x3 :: x4 :: L)):Dj a b (x4 :: x0 :: x1 :: x2 :: x3 :: L):=Dj.f1 (⟨h.1,Dj.f3 h.2⟩:Dj a b (x0 :: x4 :: x1 :: x2 :: x3 :: L))
theorem Sep.f4 {base:Nat}{w:World}{x0 x1 x2 x3 x4:Itm}{L:List Itm}(h:Sep base w (x0 :: x1 :: x2 :: x3 :: x4 :: L)):Sep base w (x4 :: x0 :: x1 :: x2 :: x3 :: L):=(Sep.cons_map (I:=x0) (fun _ _=>Dj.f3) Sep.f3 h).swap
theorem Dj.f5 {a b:Nat}{x0 x1 x2 x3 x4 x5:Itm}{L:List Itm}(h:Dj a b (x0 :: x1 :: x2 :: x3 :: x4 :: x5 :: L)):Dj a b (x5 :: x0 :: x1 :: x2 :: x3 :: x4 :: L):=Dj.f1 (⟨h.1,Dj.f4 h.2⟩:Dj a b (x0 :: x5 :: x1 :: x2 :: x3 :: x4 :: L))
theorem Sep.f5 {base:Nat}{w:World}{x0 x1 x2 x3 x4 x5:Itm}{L:List Itm}(h:Sep base w (x0 :: x1 :: x2 :: x3 :: x4 :: x5 :: L)):Sep base w (x5 :: x0 :: x1 :: x2 :: x3 :: x4 :: L):=(Sep.cons_map (I:=x0) (fun _ _=>Dj.f4) Sep.f4 h).swap
theorem Dj.f6 {a b:Nat}{x0 x1 x2 x3 x4 x5 x6:Itm}{L:List Itm}(h:Dj a b (x0 :: x1 :: x2 :: x3 :: x4 :: x5 :: x6 :: L)):Dj a b (x6 :: x0 :: x1 :: x2 :: x3 :: x4 :: x5 :: L):=Dj.f1 (⟨h.1,Dj.f5 h.2⟩:Dj a b (x0 :: x6 :: x1 :: x2 :: x3 :: x4 :: x5 :: L))
theorem Sep.f6 {base:Nat}{w:World}{x0 x1 x2 x3 x4 x5 x6:Itm}{L:List Itm}(h:Sep base w (x0 :: x1 :: x2 :: x3 :: x4 :: x5 :: x6 :: L)):Sep base w (x6 :: x0 :: x1 :: x2 :: x3 :: x4 :: x5 :: L):=(Sep.cons_map (I:=x0) (fun _ _=>Dj.f5) Sep.f5 h).swap
theorem Dj.f7 {a b:Nat}{x0 x1 x2 x3 x4 x5 x6 x7:Itm}{L:List Itm}(h:Dj a b (x0 :: x1 :: x2 :: x3 :: x4 :: x5 :: x6 :: x7 :: L)):Dj a b (x7 :: x0 :: x1 :: x2 :: x3 :: x4 :: x5 :: x6 :: L):=Dj.f1 (⟨h.1,Dj.f6 h.2⟩:Dj a b (x0 :: x7 :: x1 :: x2 :: x3 :: x4 :: x5 :: x6 :: L))
theorem Sep.f7 {base:Nat}{w:World}{x0 x1 x2 x3 x4 x5 x6 x7:Itm}{L:List Itm}(h:Sep base w (x0 :: x1 :: x2 :: x3 :: x4 :: x5 :: x6 :: x7 :: L)):Sep base w (x7 :: x0 :: x1 :: x2 :: x3 :: x4 :: x5 :: x6 :: L):=(Sep.cons_map (I:=x0) (fun _ _=>Dj.f6) Sep.f6 h).swap
theorem Dj.f8 {a b:Nat}{x0 x1 x2 x3 x4 x5 x6 x7 x8:Itm}{L:List Itm}(h:Dj a b (x0 :: x1 :: x2 :: x3 :: x4 :: x5 :: x6 :: x7 :: x8 :: L)):Dj a b (x8 :: x0 :: x1 :: x2 :: x3 :: x4 :: x5 :: x6 :: x7 :: L):=Dj.f1 (⟨h.1,Dj.f7 h.2⟩:Dj a b (x0 :: x8 :: x1 :: x2 :: x3 :: x4 :: x5 :: x6 :: x7 :: L))
theorem Sep.f8 {base:Nat}{w:World}{x0 x1 x2 x3 x4 x5 x6 x7 x8:Itm}{L:List Itm}(h:Sep base w (x0 :: x1 :: x2 :: x3 :: x4 :: x5 :: x6 :: x7 :: x8 :: L)):Sep base w (x8 :: x0 :: x1 :: x2 :: x3 :: x4 :: x5 :: x6 :: x7 :: L):=(Sep.cons_map (I:=x0) (fun _ _=>Dj.f7) Sep.f7 h).swap
theorem Dj.f9 {a b:Nat}{x0 x1 x2 x3 x4 x5 x6 x7 x8 x9:Itm}{L:List Itm}(h:Dj a b (x0 :: x1 :: x2 :: x3 :: x4 :: x5 :: x6 :: x7 :: x8 :: x9 :: L)):Dj a b (x9 :: x0 :: x1 :: x2 :: x3 :: x4 :: x5 :: x6 :: x7 :: x8 :: L):=Dj.f1 (⟨h.1,Dj.f8 h.2⟩:Dj a b (x0 :: x9 :: x1 :: x2 :: x3 :: x4 :: x5 :: x6 :: x7 :: x8 :: L))
theorem Sep.f9 {base:Nat}{w:World}{x0 x1 x2 x3 x4 x5 x6 x7 x8 x9:Itm}{L:List Itm}(h:Sep base w (x0 :: x1 :: x2 :: x3 :: x4 :: x5 :: x6 :: x7 :: x8 :: x9 :: L)):Sep base w (x9 :: x0 :: x1 :: x2 :: x3 :: x4 :: x5 :: x6 :: x7 :: x8 :: L):=(Sep.cons_map (I:=x0) (fun _ _=>Dj.f8) Sep.f8 h).swap
theorem Dj.f10 {a b:Nat}{x0 x1 x2 x3 x4 x5 x6 x7 x8 x9 x10:Itm}{L:List Itm}(h:Dj a b (x0 :: x1 :: x2 :: x3 :: x4 :: x5 :: x6 :: x7 :: x8 :: x9 :: x10 :: L)):Dj a b (x10 :: x0 :: x1 :: x2 :: x3 :: x4 :: x5 :: x6 :: x7 :: x8 :: x9 :: L):=Dj.f1 (⟨h.1,Dj.f9 h.2⟩:Dj a b (x0 :: x10 :: x1 :: x2 :: x3 :: x4 :: x5 :: x6 :: x7 :: x8 :: x9 :: L))
theorem Sep.f10 {base:Nat}{w:World}{x0 x1 x2 x3 x4 x5 x6 x7 x8 x9 x10:Itm}{L:List Itm}(h:Sep base w (x0 :: x1 :: x2 :: x3 :: x4 :: x5 :: x6 :: x7 :: x8 :: x9 :: x10 :: L)):Sep base w (x10 :: x0 :: x1 :: x2 :: x3 :: x4 :: x5 :: x6 :: x7 :: x8 :: x9 :: L):=(Sep.cons_map (I:=x0) (fun _ _=>Dj.f9) Sep.f9 h).swap
theorem Dj.f11 {a b:Nat}{x0 x1 x2 x3 x4 x5 x6 x7 x8 x9 x10 x11:Itm}{L:List Itm}(h:Dj a b (x0 :: x1 :: x2 :: x3 :: x4 :: x5 :: x6 :: x7 :: x8 :: x9 :: x10 :: x11 :: L)):Dj a b (x11 :: x0 :: x1 :: x2 :: x3 :: x4 :: x5 :: x6 :: x7 :: x8 :: x9 :: x10 :: L):=Dj.f1 (⟨h.1,Dj.f10 h.2⟩:Dj a b (x0 :: x11 :: x1 :: x2 :: x3 :: x4 :: x5 :: x6 :: x7 :: x8 :: x9 :: x10 :: L))
theorem Sep.f11 {base:Nat}{w:World}{x0 x1 x2 x3 x4 x5 x6 x7 x8 x9 x10 x11:Itm}{L:List Itm}(h:Sep base w (x0 :: x1 :: x2 :: x3 :: x4 :: x5 :: x6 :: x7 :: x8 :: x9 :: x10 :: x11 :: L)):Sep base w (x11 :: x0 :: x1 :: x2 :: x3 :: x4 :: x5 :: x6 :: x7 :: x8 :: x9 :: x10 :: L):=(Sep.cons_map (I:=x0) (fun _ _=>Dj.f10) Sep.f10 h).swap
theorem Dj.f12 {a b:Nat}{x0 x1 x2 x3 x4 x5 x6 x7 x8 x9 x10 x11 x12:Itm}{L:List Itm}(h:Dj a b (x0 :: x1 :: x2 :: x3 :: x4 :: x5 :: x6 :: x7 :: x8 :: x9 :: x10 :: x11 :: x12 :: L)):Dj a b (x12 :: x0 :: x1 :: x2 :: x3 :: x4 :: x5 :: x6 :: x7 :: x8 :: x9 :: x10 :: x11 :: L):=Dj.f1 (⟨h.1,Dj.f11 h.2⟩:Dj a b (x0 :: x12 :: x1 :: x2 :: x3 :: x4 :: x5 :: x6 :: x7 :: x8 :: x9 :: x10 :: x11 :: L))
theorem Sep.f12 {base:Nat}{w:World}{x0 x1 x2 x3 x4 x5 x6 x7 x8 x9 x10 x11 x12:Itm}{L:List Itm}(h:Sep base w (x0 :: x1 :: x2 :: x3 :: x4 :: x5 :: x6 :: x7 :: x8 :: x9 :: x10 :: x11 :: x12 :: L)):Sep base w (x12 :: x0 :: x1 :: x2 :: x3 :: x4 :: x5 :: x6 :: x7 :: x8 :: x9 :: x10 :: x11 :: L):=(Sep.cons_map (I:=x0) (fun _ _=>Dj.f11) Sep.f11 h).swap
theorem Dj.f13 {a b:Nat}{x0 x1 x2 x3 x4 x5 x6 x7 x8 x9 x10 x11 x12 x13:Itm}{L:List Itm}(h:Dj a b (x0 :: x1 :: x2 :: x3 :: x4 :: x5 :: x6 :: x7 :: x8 :: x9 :: x10 :: x11 :: x12 :: x13 :: L)):Dj a b (x13 :: x0 :: x1 :: x2 :: x3 :: x4 :: x5 :: x6 :: x7 :: x8 :: x9 :: x10 :: x11 :: x12 :: L):=Dj.f1 (⟨h.1,Dj.f12 h.2⟩:Dj a b (x0 :: x13 :: x1 :: x2 :: x3 :: x4 :: x5 :: x6 :: x7 :: x8 :: x9 :: x10 :: x11 :: x12 :: L))
theorem Sep.f13 {base:Nat}{w:World}{x0 x1 x2 x3 x4 x5 x6 x7 x8 x9 x10 x11 x12 x13:Itm}{L:List Itm}(h:Sep base w (x0 :: x1 :: x2 :: x3 :: x4 :: x5 :: x6 :: x7 :: x8 :: x9 :: x10 :: x11 :: x12 :: x13 :: L)):Sep base w (x13 :: x0 :: x1 :: x2 :: x3 :: x4 :: x5 :: x6 :: x7 :: x8 :: x9 :: x10 :: x11 :: x12 :: L):=(Sep.cons_map (I:=x0) (fun _ _=>Dj.f12) Sep.f12 h).swap
theorem Dj.f14 {a b:Nat}{x0 x1 x2 x3 x4 x5 x6 x7 x8 x9 x10 x11 x12 x13 x14:Itm}{L:List Itm}(h:Dj a b (x0 :: x1 :: x2 :: x3 :: x4 :: x5 :: x6 :: x7 :: x8 :: x9 :: x10 :: x11 :: x12 :: x13 :: x14 :: L)):Dj a b (x14 :: x0 :: x1 :: x2 :: x3 :: x4 :: x5 :: x6 :: x7 :: x8 :: x9 :: x10 :: x11 :: x12 :: x13 :: L):=Dj.f1 (⟨h.1,Dj.f13 h.2⟩:Dj a b (x0 :: x14 :: x1 :: x2 :: x3 :: x4 :: x5 :: x6 :: x7 :: x8 :: x9 :: x10 :: x11 :: x12 :: x13 :: L))
theorem Sep.f14 {base:Nat}{w:World}{x0 x1 x2 x3 x4 x5 x6 x7 x8 x9 x10 x11 x12 x13 x14:Itm}{L:List Itm}(h:Sep base w (x0 :: x1 :: x2 :: x3 :: x4 :: x5 :: x6 :: x7 :: x8 :: x9 :: x10 :: x11 :: x12 :: x13 :: x14 :: L)):Sep base w (x14 :: x0 :: x1 :: x2 :: x3 :: x4 :: x5 :: x6 :: x7 :: x8 :: x9 :: x10 :: x11 :: x12 :: x13 :: L):=(Sep.cons_map (I:=x0) (fun _ _=>Dj.f13) Sep.f13 h).swap
theorem Dj.f15 {a b:Nat}{x0 x1 x2 x3 x4 x5 x6 x7 x8 x9 x10 x11 x12 x13 x14 x15:Itm}{L:List Itm}(h:Dj a b (x0 :: x1 :: x2 :: x3 :: x4 :: x5 :: x6 :: x7 :: x8 :: x9 :: x10 :: x11 :: x12 :: x13 :: x14 :: x15 :: L)):Dj a b (x15 :: x0 :: x1 :: x2 :: x3 :: x4 :: x5 :: x6 :: x7 :: x8 :: x9 :: x10 :: x11 :: x12 :: x13 :: x14 :: L):=Dj.f1 (⟨h.1,Dj.f14 h.2⟩:Dj a b (x0 :: x15 :: x1 :: x2 :: x3 :: x4 :: x5 :: x6 :: x7 :: x8 :: x9 :: x10 :: x11 :: x12 :: x13 :: x14 :: L))
theorem Sep.f15 {base:Nat}{w:World}{x0 x1 x2 x3 x4 x5 x6 x7 x8 x9 x10 x11 x12 x13 x14 x15:Itm}{L:List Itm}(h:Sep base w (x0 :: x1 :: x2 :: x3 :: x4 :: x5 :: x6 :: x7 :: x8 :: x9 :: x10 :: x11 :: x12 :: x13 :: x14 :: x15 :: L)):Sep base w (x15 :: x0 :: x1 :: x2 :: x3 :: x4 :: x5 :: x6 :: x7 :: x8 :: x9 :: x10 :: x11 :: x12 :: x13 :: x14 :: L):=(Sep.cons_map (I:=x0) (fun _ _=>Dj.f14) Sep.f14 h).swap
theorem Dj.f16 {a b:Nat}{x0 x1 x2 x3 x4 x5 x6 x7 x8 x9 x10 x11 x12 x13 x14 x15 x16:Itm}{L:List Itm}(h:Dj a b (x0 :: x1 :: x2 :: x3 :: x4 :: x5 :: x6 :: x7 :: x8 :: x9 :: x10 :: x11 :: x12 :: x13 :: x14 :: x15 :: x16 :: L)):Dj a b (x16 :: x0 :: x1 :: x2 :: x3 :: x4 :: x5 :: x6 :: x7 :: x8 :: x9 :: x10 :: x11 :: x12 :: x13 :: x14 :: x15 :: L):=Dj.f1 (⟨h.1,Dj.f15 h.2⟩:Dj a b (x0 :: x16 :: x1 :: x2 :: x3 :: x4 :: x5 :: x6 :: x7 :: x8 :: x9 :: x10 :: x11 :: x12 :: x13 :: x14 :: x15 :: L))
theorem Sep.f16 {base:Nat}{w:World}{x0 x1 x2 x3 x4 x5 x6 x7 x8 x9 x10 x11 x12 x13 x14 x15 x16:Itm}{L:List Itm}(h:Sep base w (x0 :: x1 :: x2 :: x3 :: x4 :: x5 :: x6 :: x7 :: x8 :: x9 :: x10 :: x11 :: x12 :: x13 :: x14 :: x15 :: x16 :: L)):Sep base w (x16 :: x0 :: x1 :: x2 :: x3 :: x4 :: x5 :: x6 :: x7 :: x8 :: x9 :: x10 :: x11 :: x12 :: x13 :: x14 :: x15 :: L):=(Sep.cons_map (I:=x0) (fun _ _=>Dj.f15) Sep.f15 h).swap
theorem Dj.f17 {a b:Nat}{x0 x1 x2 x3 x4 x5 x6 x7 x8 x9 x10 x11 x12 x13 x14 x15 x16 x17:Itm}{L:List Itm}(h:Dj a b (x0 :: x1 :: x2 :: x3 :: x4 :: x5 :: x6 :: x7 :: x8 :: x9 :: x10 :: x11 :: x12 :: x13 :: x14 :: x15 :: x16 :: x17 :: L)):Dj a b (x17 :: x0 :: x1 :: x2 :: x3 :: x4 :: x5 :: x6 :: x7 :: x8 :: x9 :: x10 :: x11 :: x12 :: x13 :: x14 :: x15 :: x16 :: L):=Dj.f1 (⟨h.1,Dj.f16 h.2⟩:Dj a b (x0 :: x17 :: x1 :: x2 :: x3 :: x4 :: x5 :: x6 :: x7 :: x8 :: x9 :: x10 :: x11 :: x12 :: x13 :: x14 :: x15 :: x16 :: L))
theorem Sep.f17 {base:Nat}{w:World}{x0 x1 x2 x3 x4 x5 x6 x7 x8 x9 x10 x11 x12 x13 x14 x15 x16 x17:Itm}{L:List Itm}(h:Sep base w (x0 :: x1 :: x2 :: x3 :: x4 :: x5 :: x6 :: x7 :: x8 :: x9 :: x10 :: x11 :: x12 :: x13 :: x14 :: x15 :: x16 :: x17 :: L)):Sep base w (x17 :: x0 :: x1 :: x2 :: x3 :: x4 :: x5 :: x6 :: x7 :: x8 :: x9 :: x10 :: x11 :: x12 :: x13 :: x14 :: x15 :: x16 :: L):=(Sep.cons_map (I:=x0) (fun _ _=>Dj.f16) Sep.f16 h).swap
theorem bdN {w w':World}{n:Nat}(h:World.drewN w n=w'):Below w.heap.size w w':=by subst h;exact pw_below_drewN (Below.refl _ _) _
theorem bd1 {w w':World}(h:World.drew w=w'):Below w.heap.size w w':=by subst h;exact below_drew1 (Below.refl _ _)
def Wr (g:Nat)(w w':World):Prop:=(w'.os=w.os∧w'.tape=w.tape∧w'.output=w.output)∧w'.heap.size=w.heap.size∧∀k,k≠g→w'.heap[k]?=w.heap[k]?
theorem Wr.below {B g:Nat}{w0 w w':World}(h:Wr g w w')(hb:Below B w0 w)(hg:B≤g):Below B w0 w':=
 ⟨h.1.1.trans hb.os,h.1.2.1.trans hb.tape,h.1.2.2.trans hb.output,by rw[h.2.1];exact hb.size,fun k hk=>(h.2.2 k (by omega)).trans (hb.block k hk)⟩
theorem Wr.keptR {g:Nat}{w w':World}(h:Wr g w w'):KeptR g (g+1) w w':=⟨by rw[h.2.1];exact Nat.le_refl _,fun k _ hn=>h.2.2 k (by omega)⟩
theorem Wr.kept {g:Nat}{w w':World}(h:Wr g w w'):Kept w w' (fun k=>k=g):=⟨by rw[h.2.1];exact Nat.le_refl _,fun k _ hn=>h.2.2 k hn⟩
theorem Wr.set (w:World)(g o:Nat)(vs:List Value):Wr g w (w.setCells g o vs):=
 ⟨⟨(setCells_same g vs o w).1,(setCells_same g vs o w).2.1,(setCells_same g vs o w).2.2.1⟩,(setCells_same g vs o w).2.2.2,fun k hk=>setCells_far vs o k hk⟩
def iBlk (g:Nat)(cs:Array Value)(t:TypeId):Itm where
 a:=g
 b:=g+1
 P:=fun w=>w.heap[g]?=some (.cells cs t (0,0))
 st:=fun hk h=>(hk g (Nat.le_refl _) (Nat.lt_succ_self _)).trans h
def iRow {α:Type}(d:Kd α)(e base a b:Nat)(v:Value)(xs:List α):Itm where
 a:=a
 b:=b
 P:=fun w=>d.R e w base (fun k=>a≤k∧k<b) v xs
 st:=fun hk h=>Kd.R_move h (fun k q=>hk k q.1 q.2)
def iSow {α:Type}(d:Kd α)(e base a b:Nat)(v:Value)(xs:List α):Itm where
 a:=a
 b:=b
 P:=fun w=>Kd.S d e w base (fun k=>a≤k∧k<b) v xs
 st:=fun hk h=>Kd.S_move h (fun k q=>hk k q.1 q.2)
section
variable {α : Type} {d : Kd α} {e base : Nat} {w w' : World} {v : Value} {xs : List α} {L : List Itm} {ok : Nat → Prop}
theorem Sep.row (h:Sep base w L)(hb:Below w.heap.size w w')(hB:base≤w.heap.size)(ho:d.R e w' w.heap.size ok v xs):Sep base w' (iRow d e base w.heap.size w'.heap.size v xs :: L):=
 h.add hb hB (iRow d e base w.heap.size w'.heap.size v xs) (Nat.le_refl _) hb.size (Nat.le_refl _) (Kd.R_lower (Kd.R_mono (Kd.R_bound ho) (fun k q=>⟨q.2.1,q.2.2.1⟩)) hB)
theorem Sep.sow (h:Sep base w L)(hb:Below w.heap.size w w')(hB:base≤w.heap.size)(ho:Kd.S d e w' w.heap.size ok v xs):Sep base w' (iSow d e base w.heap.size w'.heap.size v xs :: L):=
 h.add hb hB (iSow d e base w.heap.size w'.heap.size v xs) (Nat.le_refl _) hb.size (Nat.le_refl _) (Kd.S_lower (Kd.S_mono (Kd.S_bound ho) (fun k q=>⟨q.2.1,q.2.2.1⟩)) hB)
theorem Sep.blk {g:Nat}{cs:Array Value}{t:TypeId}(h:Sep base w L)(hb:Below w.heap.size w w')(hB:base≤w.heap.size)(hg:g=w.heap.size)(hbox:w'.heap[g]?=some (.cells cs t (0,0))):Sep base w' (iBlk g cs t :: L):=
 h.add hb hB (iBlk g cs t) (by show w.heap.size≤g;omega) (Nat.le_succ g) (by show g+1≤_;exact(Array.getElem?_eq_some_iff.1 hbox).1) hbox
theorem Sep.wr {g:Nat}{cs cs':Array Value}{t:TypeId}(h:Sep base w (iBlk g cs t :: L))(hw:Wr g w w')(hbox:w'.heap[g]?=some (.cells cs' t (0,0))):Sep base w' (iBlk g cs' t :: L):=
 h.put (by exact hw.keptR) (iBlk g cs' t) rfl rfl hbox
end
section
variable {P : Program} {ops : Array Oper} {rest : List Oper} {o : Oper} {a : Act} {Q : Exit → Act → World → Prop} {W : World}
theorem gSt {g off:Nat}{u:Value}{cs:Array Value}(seg:List Value)(cs':Array Value){t t0:TypeId}{p:Tmp}{x:Operand}
  (hb:W.heap[g]?=some (.cells cs t0 (0,0)))
  (h:∀w',Wr g W w'→w'.heap[g]?=some (.cells cs' t0 (0,0))→wpList P ops Q rest a w')
  (hop:o.op=.store t (.tmp p) x:=by rfl) (hgd:o.guard=none:=by rfl) (hN:o.dst=none:=by rfl) (hp:a.eval (.tmp p)=.pointer (some ⟨g,off,none⟩):=by rfl) (hx:a.eval x=u:=by rfl) (hu:u.cells.toList=seg:=by rfl)
  (hc:cs.toList.take off++seg++cs.toList.drop (off+seg.length)=cs'.toList:=by rfl) (hf:off+seg.length≤cs.size:=by exact Nat.le_of_ble_eq_true rfl)
  (ht:(P.info? t).map (·.size)=some seg.length:=by kernel_rfl) (h1:∀q ∈ seg,q.oneCell'=true:=by simp [Value.oneCell']):wpList P ops Q (o :: rest) a W:=by
 obtain⟨cur',q1,q2,q3⟩:=setCells_row seg off W cs hb hf
 have e:cur'=cs':=by
  have:cur'.toList=cs'.toList:=q3.trans hc
  rw[← Array.toArray_toList (xs:=cur'),this]
 subst e
 refine store_event (w1:=W.setCells g off seg) hgd hop hN ?_ (fun w' hw=>by subst hw;exact h _ (Wr.set W g off seg) q1)
 unfold execOp
 simp only[hop,hp,hx]
 rw[Sem.run_bind,run_store_run t u seg hb hu ht hf h1]
 rfl
theorem gCl (N:Tmp)(v:Value)(h:wpList P ops Q rest (a.put o.dst v) W)(hd:o.dst=some N:=by rfl)(hgd:o.guard=none:=by rfl)
  (hrun:(execOp a.eval o).run P W=.ok (.value v) W:=by first|(go_simp;done)|(go_simp;rfl)):wpList P ops Q (o :: rest) a W:=Kd.event_run hgd hrun h
theorem gLd {g:Nat}(N:Tmp){cs:Array Value}{t t0:TypeId}{p:Tmp}{d:TypeDesc}(hb:W.heap[g]?=some (.cells cs t0 (0,0)))
  (h:wpList P ops Q rest (a.put o.dst (.agg cs)) W)
  (hd:o.dst=some N:=by rfl) (hgd:o.guard=none:=by rfl) (hop:o.op=.load t (.tmp p):=by rfl) (hp:a.eval (.tmp p)=.pointer (some ⟨g,0,none⟩):=by rfl)
  (hu:P.underlying t=some d:=by assumption) (hdd:(match d with| .struct _| .array _ _=>true|_=>false)=true:=by rfl) (hi:(P.info? t).map (·.size)=some cs.size:=by kernel_rfl):wpList P ops Q (o :: rest) a W:=
 wpList_load_row hgd t (.tmp p) hop g hp t0 cs (0,0) d hb hu hdd hi h
end
section
variable {α : Type} {d : Kd α} {e base g n cap : Nat} {W : World} {ok oki : Nat → Prop} {xs : List α} {i : Int} {c : List Value}
theorem row_blk (h:d.R e W base ok (.slice (some ⟨g,0,none⟩) n cap) xs):∃cur,W.heap[g]?=some (.cells cur e (0,0))∧n * d.sz≤cur.size:=by
 have hn:=(Kd.R_reads' h).1
 obtain⟨_,inner,hown,hr⟩:=h
 rcases hown.2 with ⟨hv,_⟩|⟨g',cap',cur,hv,hb,hh,hnc,hcm,hcs,_⟩
 ·cases hv
 ·injection hv with ha _ hc
  injection ha with ha
  injection ha with hg'
  subst hg'
  refine⟨cur,hh,?_⟩
  rw[hcs,hn]
  exact Nat.mul_le_mul_right _ hnc
theorem H_blk (h:Kd.H d e W base ok (.slice (some ⟨g,0,none⟩) n cap) xs i oki c):∃cur,W.heap[g]?=some (.cells cur e (0,0))∧n * d.sz≤cur.size:=by
 obtain⟨_,f,hR⟩:=h
 exact row_blk (d:=Kd.gap f d i.toNat c) hR
theorem H_cell (h:Kd.H d e W base ok (.slice (some ⟨g,0,none⟩) n cap) xs i oki c)(h0:0≤i)(h1:i<n)(j:Nat){u:Value}(hu:c[j]?=some u):W.cell? ⟨g,i.toNat * d.sz+j,none⟩=some u:=by
 obtain⟨rows,_,_,_,_,hcc,_⟩:=Kd.H_raw h h0 h1
 exact hcc j u hu
variable {P : Program} {ops : Array Oper} {rest : List Oper} {o : Oper} {a : Act} {Q : Exit → Act → World → Prop}
theorem gStH {off:Nat}{u:Value}{t:TypeId}{p:Tmp}{x:Operand}(j:Nat)(seg:List Value)(c':List Value)
  (hH:Kd.H d e W base ok (.slice (some ⟨g,0,none⟩) n cap) xs i oki c) (h0:0≤i) (h1:i<n)
  (h:∀w',Wr g W w'→Kd.H d e w' base ok (.slice (some ⟨g,0,none⟩) n cap) xs i oki c'→wpList P ops Q rest a w')
  (hop:o.op=.store t (.tmp p) x:=by rfl) (hgd:o.guard=none:=by rfl) (hN:o.dst=none:=by rfl) (hp:a.eval (.tmp p)=.pointer (some ⟨g,off,none⟩):=by rfl) (hoff:off=i.toNat * d.sz+j:=by rfl) (hx:a.eval x=u:=by rfl) (hu:u.cells.toList=seg:=by rfl)
  (hc:c.take j++seg++c.drop (j+seg.length)=c':=by rfl) (hj:j+seg.length≤d.sz:=by exact Nat.le_of_ble_eq_true rfl)
  (ht:(P.info? t).map (·.size)=some seg.length:=by kernel_rfl) (hone:∀q ∈ seg,q.oneCell'=true:=by simp [Value.oneCell']):wpList P ops Q (o :: rest) a W:=by
 subst hoff
 subst hc
 obtain⟨cur,hb,hsz⟩:=H_blk hH
 have hfit:i.toNat * d.sz+j+seg.length≤cur.size:=by
  have h2:(i.toNat+1) * d.sz≤n * d.sz:=Nat.mul_le_mul_right _ (by omega)
  rw[Nat.add_mul,Nat.one_mul] at h2
  omega
 refine store_event (w1:=W.setCells g (i.toNat * d.sz+j) seg) hgd hop hN ?_ (fun w' hw=>by subst hw;exact h _ (Wr.set W g _ seg) (Kd.H_seg hH h0 h1 hj hone).1)
 unfold execOp
 simp only[hop,hp,hx]
 rw[Sem.run_bind,run_store_run t u seg hb hu ht hfit hone]
 rfl
end
section
variable {α : Type} {P : Program}
theorem run_cp {enc:α→Value}{h1:∀x,(enc x).oneCell'=true}(d:α){w:World}(t ty e:TypeId)(ht:P.underlying t=some (.slice e))(hinfo:(P.info? e).map (·.size)=some 1)
  {A As:Option Addr} {n c k m cs base n2:Nat} {ok:Nat→Prop} {xs ys:List α} (HO:(Kd.scalar enc h1).R e w base ok (.slice A n c) xs) (HR:(Kd.scalar enc h1).C w As m ys) (hk:k+m≤n) (hn2:m≤n2):
  ∃w1,(Builtin.copy_ #[t,t] ty #[.slice (if c=k then A else A.map (fun x=>x.add k)) n2 (c - k),.slice As m cs]).run P w=.ok (goInt (m:Int)) w1∧(Kd.scalar enc h1).R e w1 base ok (.slice A n c) (xs.take k++ys++xs.drop (k+m))∧
   (w1.os=w.os∧w1.tape=w.tape∧w1.output=w.output)∧w1.heap.size=w.heap.size∧∀j,some j≠(Value.slice A n c).ownBlock→w1.heap[j]?=w.heap[j]?:=by
 have hR:=Kd.reads_of_C (enc:=enc) (d:=d) (h1:=h1) HR
 have hm:ys.length=m:=hR.1
 have hn:n=xs.length:=(Kd.R_reads' HO).1
 have hown:=Kd.own_of_R HO
 rcases Nat.eq_zero_or_pos m with h0|hp
 ·subst h0
  obtain rfl:ys=[]:=List.eq_nil_of_length_eq_zero hm
  refine⟨w,?_,by simpa using HO,⟨rfl,rfl,rfl⟩,rfl,fun _ _=>rfl⟩
  have:=run_copy_none (P:=P) w t t ty e (if c=k then A else A.map (fun x=>x.add k)) As n2 (c - k) 0 cs ht hinfo (by simp)
  simpa using this
 ·obtain⟨ad,rfl,hc⟩:=hR.2.2 hp
  rcases hown.2 with ⟨hv,hx0⟩|⟨g,cap,cur,hv,hb,hh,hnc,hcm,hcs,htake⟩
  ·injection hv with _ hz _
   omega
  ·injection hv with ha hl hc'
   subst ha
   subst hc'
   have hck:¬c=k:=by omega
   have hcur:cur.size=c:=by omega
   rw[if_neg hck]
   have hsrc:∀j u,(encs enc ys)[j]?=some u→w.cell? (ad.add j)=some u:=by
    intro j u hu
    have hj:j<ys.length:=by
     rcases Nat.lt_or_ge j ys.length with h|h
     ·exact h
     ·rw[List.getElem?_eq_none (by rw[encs_length];exact h)] at hu
      cases hu
    rw[encs_get (d:=d) _ j hj] at hu
    rw[hc j (by omega),← hu]
   have hkl:(encs enc ys).length=m:=by rw[encs_length,hm]
   have hr:=run_copy_cells (P:=P) w t t ty e g k n2 (c - k) ad m cs (encs enc ys) ht hinfo (by rw[hkl];simp [Nat.min_def];omega) hsrc
    (fun j hj=>by rw[cell_of_row w g _ cur e (0,0) hh];simp;omega) (fun j _=>blk_frozen hh _) (by intro u hu;simp only[encs,List.mem_map] at hu;obtain⟨q,_,rfl⟩:=hu;exact h1 q)
   obtain⟨cur',h3,h4,h5⟩:=setCells_row (encs enc ys) k w cur hh (by rw[hkl];omega)
   obtain⟨s1,s2,s3,s4⟩:=setCells_same g (encs enc ys) k w
   have hadd:((some (⟨g,0,none⟩:Addr)).map (fun x=>x.add k))=some ⟨g,k,none⟩:=by
    simp only[Option.map_some]
    rw[add_at]
    simp
   refine⟨_,by rw[hadd,hr,hkl],Kd.R_of_own ?_ HO.1,⟨s1,s2,s3⟩,s4,fun j hj=>setCells_far _ _ j (fun he=>hj (by rw[he];simp [Value.ownBlock]))⟩
   have hln:(xs.take k++ys++xs.drop (k+m)).length=xs.length:=by
    simp only[List.length_append,List.length_take,List.length_drop]
    omega
   rw[hln]
   refine⟨by rw[encs_length,hln,Nat.mul_one],.inr ⟨g,c,cur',by rw[hn],hb,h3,hnc,hcm,by rw[h4,hcs],?_⟩⟩
   have htk:cur.toList.take xs.length=encs enc xs:=by rw[← htake,Nat.mul_one]
   rw[h5,hkl,Nat.mul_one]
   have e1:cur.toList.take k=encs enc (xs.take k):=by
    have:encs enc (xs.take k)=(encs enc xs).take k:=by simp [encs,List.map_take]
    rw[this,← htk,List.take_take,Nat.min_eq_left (by omega)]
   rw[e1,← encs_append]
   have l1:(encs enc (xs.take k++ys)).length=k+m:=by rw[encs_length,List.length_append,List.length_take];omega
   rw[List.take_append,l1,List.take_of_length_le (by rw[l1];omega),List.take_drop]
   have e2:(encs enc (xs.take k++ys++xs.drop (k+m)))=encs enc (xs.take k++ys)++(encs enc xs).drop (k+m):=by simp [encs,List.map_drop]
   rw[e2,← htk]
   congr 1
   rw[show k+m+(xs.length - (k+m))=xs.length by omega]
variable {ops : Array Oper} {o : Oper} {a : Act} {Q : Exit → Act → World → Prop} {Kc : Act → World → Prop}
theorem gCp2 {enc:α→Value}{h1:∀x,(enc x).oneCell'=true}(d:α){w:World}(s x:Operand)(t e:TypeId)(ht:P.underlying t=some (.slice e))(hinfo:(P.info? e).map (·.size)=some 1)
  {A As:Option Addr} {n c k m cs base n2:Nat} {ok:Nat→Prop} {xs ys:List α} (HO:(Kd.scalar enc h1).R e w base ok (.slice A n c) xs) (HR:(Kd.scalar enc h1).C w As m ys) (hk:k+m≤n) (hn2:m≤n2)
  (h:∀w1,(Kd.scalar enc h1).R e w1 base ok (.slice A n c) (xs.take k++ys++xs.drop (k+m))→(w1.os=w.os∧w1.tape=w.tape∧w1.output=w.output)→w1.heap.size=w.heap.size→(∀j,some j≠(Value.slice A n c).ownBlock→w1.heap[j]?=w.heap[j]?)→Kc (a.put o.dst (goInt (m:Int))) w1)
  (hs:a.eval s=.slice (if c=k then A else A.map (fun x=>x.add k)) n2 (c - k)) (hx:a.eval x=.slice As m cs)
  (hw:Region.wanted o (yielded ops a.tmps)=true:=by rfl) (ho:o.op=.call {callee:=.builtin .copy,args:=#[s,x],argTypes:=#[t,t]}:=by rfl):
  if Region.wanted o (yielded ops a.tmps)=true then Oper.wp P o a w Kc Q else Kc (a.put o.dst undef) w:=by
 rw[if_pos hw]
 obtain⟨w1,hr,h2,h3,h4,h5⟩:=run_cp (P:=P) d t o.type e ht hinfo HO HR hk hn2 (cs:=cs)
 unfold Oper.wp execOp
 simp only[ho,resolve,invoke,builtin,Sem.run_bind,Sem.run_pure,Result.andThen_ok,List.map_toArray,List.map_cons,List.map_nil,hs,hx,hr]
 exact h w1 h2 h3 h4 h5
theorem gCp {enc:α→Value}{h1:∀x,(enc x).oneCell'=true}(d:α){w:World}(s x:Operand)(t e:TypeId)(ht:P.underlying t=some (.slice e))(hinfo:(P.info? e).map (·.size)=some 1)
  {A As:Option Addr} {n c k m cs base:Nat} {ok:Nat→Prop} {xs ys:List α} (HO:(Kd.scalar enc h1).R e w base ok (.slice A n c) xs) (HR:(Kd.scalar enc h1).C w As m ys) (hk:k+m≤n)
  (h:∀w1,(Kd.scalar enc h1).R e w1 base ok (.slice A n c) (xs.take k++ys++xs.drop (k+m))→(w1.os=w.os∧w1.tape=w.tape∧w1.output=w.output)→w1.heap.size=w.heap.size→(∀j,some j≠(Value.slice A n c).ownBlock→w1.heap[j]?=w.heap[j]?)→Kc (a.put o.dst (goInt (m:Int))) w1)
  (hs:a.eval s=.slice (if c=k then A else A.map (fun x=>x.add k)) (n - k) (c - k)) (hx:a.eval x=.slice As m cs)
  (hw:Region.wanted o (yielded ops a.tmps)=true:=by rfl) (ho:o.op=.call {callee:=.builtin .copy,args:=#[s,x],argTypes:=#[t,t]}:=by rfl):
  if Region.wanted o (yielded ops a.tmps)=true then Oper.wp P o a w Kc Q else Kc (a.put o.dst undef) w:=
 gCp2 d s x t e ht hinfo HO HR hk (by omega) h hs hx hw ho
end
section
variable {P : Program} {ops : Array Oper} {o : Oper} {a : Act} {Q : Exit → Act → World → Prop} {Kc : Act → World → Prop} {W : World}
theorem gBxS (N:Tmp)(cs:Array Value)(t:TypeId)
  (h:∀g,g=W.heap.size→∀w1,w1.heap[g]?=some (.cells cs t (0,0))→Below W.heap.size W w1→Kc (a.put o.dst (.pointer (some ⟨g,0,none⟩))) w1)
  (hw:Region.wanted o (yielded ops a.tmps)=true:=by rfl) (hd:o.dst=some N:=by rfl)
  (hrun:(execOp a.eval o).run P W=.ok (.value (.pointer (some ⟨W.heap.size,0,none⟩))) (W.alloc (.cells cs t (0,0))):=by first|(go_simp;done)|(go_simp;rfl)):
  if Region.wanted o (yielded ops a.tmps)=true then Oper.wp P o a W Kc Q else Kc (a.put o.dst undef) W:=box_step hw hd hrun h
theorem gStS {g off:Nat}{u:Value}{cs:Array Value}(seg:List Value)(cs':Array Value){t t0:TypeId}{p:Tmp}{x:Operand}
  (hb:W.heap[g]?=some (.cells cs t0 (0,0)))
  (h:∀w',Wr g W w'→w'.heap[g]?=some (.cells cs' t0 (0,0))→Kc a w')
  (hw:Region.wanted o (yielded ops a.tmps)=true:=by rfl)
  (hop:o.op=.store t (.tmp p) x:=by rfl) (hN:o.dst=none:=by rfl) (hp:a.eval (.tmp p)=.pointer (some ⟨g,off,none⟩):=by rfl) (hx:a.eval x=u:=by rfl) (hu:u.cells.toList=seg:=by rfl)
  (hc:cs.toList.take off++seg++cs.toList.drop (off+seg.length)=cs'.toList:=by rfl) (hf:off+seg.length≤cs.size:=by exact Nat.le_of_ble_eq_true rfl)
  (ht:(P.info? t).map (·.size)=some seg.length:=by kernel_rfl) (h1:∀q ∈ seg,q.oneCell'=true:=by simp [Value.oneCell']):
  if Region.wanted o (yielded ops a.tmps)=true then Oper.wp P o a W Kc Q else Kc (a.put none undef) W:=by
 obtain⟨cur',q1,q2,q3⟩:=setCells_row seg off W cs hb hf
 have e:cur'=cs':=by
  have:cur'.toList=cs'.toList:=q3.trans hc
  rw[← Array.toArray_toList (xs:=cur'),this]
 subst e
 refine skip_ hw hN ?_ (h _ (Wr.set W g off seg) q1)
 unfold execOp
 simp only[hop,hp,hx]
 rw[Sem.run_bind,run_store_run t u seg hb hu ht hf h1]
 rfl
theorem gGd {rest:List Oper}(hw:Region.wanted o (yielded ops a.tmps)=true)(h:wpList P ops Q ({o with guard:=none} :: rest) a W):wpList P ops Q (o :: rest) a W:=by
 unfold wpList at h ⊢
 rw[if_pos hw]
 have hn:Region.wanted {o with guard:=none} (yielded ops a.tmps)=true:=rfl
 rw[if_pos hn] at h
 exact h
theorem blkP {g:Nat}{cs:Array Value}{t:TypeId}(h:(iBlk g cs t).P W):W.heap[g]?=some (.cells cs t (0,0)):=h
theorem rowC {α:Type}{d:Kd α}{e base x y c:Nat}{A:Option Addr}{xs:List α}(h:(iRow d e base x y (.slice A xs.length c) xs).P W):d.C W A xs.length xs:=(Kd.R_reads' h).2.2
theorem rowL {α:Type}{d:Kd α}{e base x y c:Nat}{A:Option Addr}{xs:List α}(h:(iRow d e base x y (.slice A xs.length c) xs).P W):xs.length≤c:=(Kd.R_reads' h).2.1
end
section
variable {P : Program} {md : Region.Mode} {ops : Array Oper} {Q : Exit → Act → World → Prop} {S : World → Prop} {ds : List Nat}
theorem free_ {σ:Type}(L:σ→Array Bool)(A:σ→Act)(c:σ→Nat)(I:σ→World→Prop){n0:Nat}(hS:∀s w,I s w→S w)
  (hready:∀s w,I s w→c s≠0→Region.ready md ops (L s)≠[])
  (hstep:∀s w,I s w→c s≠0→∀i,i ∈ Region.ready md ops (L s)→i ∉ ds∧∃o,ops[i]?=some o∧∀K:Act→World→Prop,Shut (∀s' w',I s' w'→L s'=(L s).setIfInBounds i true→c s'+1=c s→K (A s') w')→if Region.wanted o (yielded ops (A s).tmps)=true then Oper.wp P o (A s) w K Q else K ((A s).put o.dst undef) w)
  (hcont:∀s w,I s w→c s=0→wpAnyLast P md ops Q S ds n0 (L s) (A s) w):
  ∀m s w,c s=m→I s w→wpAnyLast P md ops Q S ds (n0+m) (L s) (A s) w:=by
 intro m
 induction m with
 |zero=>intro s w hc hI;exact hcont s w hI hc
 |succ m ih=>
  intro s w hc hI
  refine⟨fun h=>absurd h (hready s w hI (by omega)),fun i hi=>?_⟩
  obtain⟨hd,o,ho,hk⟩:=hstep s w hI (by omega) i hi
  exact wpOp_step ho (fun K' hK=>hk K' (fun s' w' hI' hL hc'=>hK _ _ ⟨fun _ _=>hS s' w' hI',by rw[← hL];exact ih s' w' (by omega) hI'⟩))
end
end Go.Proofs.YtjgmkkogmfogbaaGreat.Q
