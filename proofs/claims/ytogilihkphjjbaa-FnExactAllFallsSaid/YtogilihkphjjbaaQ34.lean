/- Functions of the program as plain Lean functions, and that a call of each comes to what its function tells. Written by a program of this seat. -/
import Derived.Test.YtogilihkphjjbaaQ0
import Derived.Test.YtogilihkphjjbaaQ14
import Derived.Test.YtogilihkphjjbaaQ33
namespace Go.Proofs.Ytogilihkphjjbaa.Q
open Go.RowKit Go.Proofs.YtogilihkphjjbaaW.PrintWords Go.Proofs.YtogilihkphjjbaaW.PrintLast Go.Proofs.YtogilihkphjjbaaW.PrintMore
attribute [local go_sem] max2_int min2_int max_two min_two max_three min_three max_four min_four   -- for this text's walks alone
set_option linter.unusedVariables false
set_option linter.unusedSimpArgs false

/-! ### spec_l9Copy: function 76 -/
def spec_l9Copy.l0 : Nat → Int → List Int → List Int → Int → Int → Int → List (S55) → List Int → List Int → Int → Int → Int → List (S55) → Option (List Int × List Int × Int × Int × Int × (List (S55)))
  | 0, _, _, _, _, _, _, _, _, _, _, _, _, _ => none
  | k + 1, i, a, b, c, d, e, l, u, v, c', d', e', x => if i < (l.length : Int) then (if 0 ≤ i then ((spec_l9CopyPut.f ((rd_T55 l i).f0) ((rd_T55 l i).f1) ((rd_T55 l i).f2) ((rd_T55 l i).f3.f0) ((rd_T55 l i).f3.f1) ((rd_T55 l i).f3.f2)).bind fun p => (if x.length < 2199023255552 then (spec_l9Copy.l0 k (wrap64 (i + 1)) a b c d e l u v c' d' e' (x ++ [(⟨p.1, p.2.1, p.2.2.1, (⟨p.2.2.2.1, p.2.2.2.2.1, p.2.2.2.2.2⟩ : S30)⟩ : S55)])) else (none))) else (none)) else (some (u, v, c', d', e', x))
def spec_l9Copy.f (k : Nat) (l0_0 : List Int) (l0_1 : List Int) (a0_2 : Int) (a0_3 : Int) (a0_4 : Int) (l0_5 : List (S55)) : Option (List Int × List Int × Int × Int × Int × (List (S55))) := (some (([] : List Int) : List Int)).bind fun y => (if y.length + l0_0.length < 140737488355328 then ((some (([] : List Int) : List Int)).bind fun z => (if z.length + l0_1.length < 140737488355328 then (spec_l9Copy.l0 k 0 l0_0 l0_1 a0_2 a0_3 a0_4 l0_5 (y ++ l0_0) (z ++ l0_1) a0_2 a0_3 a0_4 (([] : List (S55)))) else (none))) else (none))
theorem spec_l9Copy.mono_l : ∀ k, (∀ y0 y1 y2 y3 y4 y5 y6 y7 y8 y9 y10 y11 y12, LeO (spec_l9Copy.l0 k y0 y1 y2 y3 y4 y5 y6 y7 y8 y9 y10 y11 y12) (spec_l9Copy.l0 (k + 1) y0 y1 y2 y3 y4 y5 y6 y7 y8 y9 y10 y11 y12))
  | 0 => fun _ _ _ _ _ _ _ _ _ _ _ _ _ r h => by simp [spec_l9Copy.l0] at h
  | k + 1 => by
    have ih0 := spec_l9Copy.mono_l k
    · intro y0 y1 y2 y3 y4 y5 y6 y7 y8 y9 y10 y11 y12
      unfold spec_l9Copy.l0
      exact LM
theorem spec_l9Copy.mono : ∀ a0 a1 a2 a3 a4 a5 k, LeO (spec_l9Copy.f k a0 a1 a2 a3 a4 a5) (spec_l9Copy.f (k + 1) a0 a1 a2 a3 a4 a5) := by
  intro a0 a1 a2 a3 a4 a5 k
  have ih0 := spec_l9Copy.mono_l k
  unfold spec_l9Copy.f
  exact LM
/-- Nothing, where something will be. -/
def nilI (base : Nat) : Itm := ⟨base, base, fun _ => True, fun _ h => h⟩
section
variable {α : Type} {d : Kd α} {e base x y : Nat} {w w1 : World} {v v1 : Value} {xs ys : List α} {L : List Itm} {ok : Nat → Prop}
/-- Behind an append to the first row. -/
theorem Sep.app (hE : d.E = []) (h : Sep base w (iRow d e base x y v xs :: L)) (hB : base ≤ w.heap.size) (ho : d.R e w1 base ok v1 ys) (hg : w.grownBy w1 v.ownBlock) (hat : v1.ownBlock = v.ownBlock ∨ ∃ b, v1.ownBlock = some b ∧ w.heap.size ≤ b) : ∃ x' y', Sep base w1 (iRow d e base x' y' v1 ys :: L) := by
  have h0 : d.R e w base (fun k => x ≤ k ∧ k < y) v xs := h.p0
  have hk : KeptR x y w w1 := ⟨hg.size, fun k hk hn => hg.block k hk (fun he => by have := h0.1 k he.symm; omega)⟩
  rcases hat with q | ⟨b, q, hb⟩
  · exact ⟨x, y, h.put hk (iRow d e base x y v1 ys) rfl rfl (Kd.R_reok hE ho (fun k he => h0.1 k (q ▸ he)))⟩
  · exact ⟨w.heap.size, w1.heap.size, ⟨⟨⟨hB, hg.size, Nat.le_refl _, Kd.R_reok hE ho (fun k he => ⟨by have := he.symm.trans q; injection this; omega, Kd.R_lt ho k he⟩)⟩, Dj.of_sep h.2 (Nat.le_refl _)⟩, h.2.keptR hk h.1.2⟩⟩
end
theorem ex_get {l : List Oper} {i : Nat} {o : Oper} {p : Oper → Prop} (h : l[i]? = some o) (hp : p o) : ∃ o, l.toArray[i]? = some o ∧ p o := ⟨o, by simpa using h, hp⟩
theorem nilI_dj {base : Nat} {w : World} : ∀ {L : List Itm}, Sep base w L → Dj base base L
  | [], _ => trivial
  | J :: L, h => ⟨.inr h.1.1.1, nilI_dj h.2⟩
theorem nilI_1 {base : Nat} {w : World} {L : List Itm} (hB : base ≤ w.heap.size) (h : Sep base w L) : Sep base w (nilI base :: L) := ⟨⟨⟨Nat.le_refl _, Nat.le_refl _, hB, trivial⟩, nilI_dj h⟩, h⟩
theorem nilI_4 {base : Nat} {w : World} {L : List Itm} (hB : base ≤ w.heap.size) (h : Sep base w L) : Sep base w (nilI base :: nilI base :: nilI base :: nilI base :: L) := nilI_1 hB (nilI_1 hB (nilI_1 hB (nilI_1 hB h)))
theorem Dsk.of_sep {base xA yA xB yB xP yP : Nat} {w : World} {vA vB vP : Value} {lA lB : List Int} {lP : List S55} {L : List Itm} (h : Sep base w (iRow (Kd.int .u8) 5 base xA yA vA lA :: iRow (Kd.int .u8) 5 base xB yB vB lB :: iSow k55 55 base xP yP vP lP :: L)) : Dsk w base vA vB vP lA lB lP := by
  have hA : (Kd.int .u8).R 5 w base (fun k => xA ≤ k ∧ k < yA) vA lA := h.p0
  have hB : (Kd.int .u8).R 5 w base (fun k => xB ≤ k ∧ k < yB) vB lB := h.p1
  have hP : Kd.S k55 55 w base (fun k => xP ≤ k ∧ k < yP) vP lP := h.p2
  have a1 : yB ≤ xA ∨ yA ≤ xB := h.1.2.1
  have a2 : yP ≤ xA ∨ yA ≤ xP := h.1.2.2.1
  have a3 : yP ≤ xB ∨ yB ≤ xP := h.2.1.2.1
  exact ⟨Kd.R_mono hA (fun k q e => by have := hB.1 k e.symm; omega), Kd.R_mono hB (fun k q e => by have := hA.1 k e.symm; omega), Kd.S_mono hP (fun k q => ⟨fun e => by have := hA.1 k e.symm; omega, fun e => by have := hB.1 k e.symm; omega⟩)⟩
/-- Behind an append to the rows of rows. -/
theorem Dsk.appP {w w1 : World} {base : Nat} {vA vB vP v1 : Value} {lA lB : List Int} {lP l1 : List S55} (h : Dsk w base vA vB vP lA lB lP) (hg : w.grownBy w1 vP.ownBlock) (ho : Kd.S k55 55 w1 base (fun k => some k ≠ vA.ownBlock ∧ some k ≠ vB.ownBlock) v1 l1) : Dsk w1 base vA vB v1 lA lB l1 :=
  ⟨Kd.R_over' h.1 (Kd.S_typed h.2.2) (by decide) hg, Kd.R_over' h.2.1 (Kd.S_typed h.2.2) (by decide) hg, ho⟩
structure spec_l9Copy.R1 where
  b0 : Bool
  b3 : Bool
  b4 : Bool
  b7 : Bool
  b10 : Bool
  b11 : Bool
  b12 : Bool
  b13 : Bool
  v6 : Value
  v9 : Value
  v10 : Value
  v13 : Value
  v16 : Value
  v17 : Value
  v3 : Value
def spec_l9Copy.cons (b0 b3 b4 b7 b10 b11 b12 b13 : Bool) : Bool := (!b3 || b0) && (!b7 || b4) && (!b11 || (b3 && b7 && b10)) && (!b13 || (b11 && b12))
theorem spec_l9Copy.cons_iff {b0 b3 b4 b7 b10 b11 b12 b13 : Bool} : spec_l9Copy.cons b0 b3 b4 b7 b10 b11 b12 b13 = true ↔ (b3 = true → b0 = true) ∧ (b7 = true → b4 = true) ∧ (b11 = true → b3 = true ∧ b7 = true ∧ b10 = true) ∧ (b13 = true → b11 = true ∧ b12 = true) := by
  unfold spec_l9Copy.cons
  cases b0 <;> cases b3 <;> cases b4 <;> cases b7 <;> cases b10 <;> cases b11 <;> cases b12 <;> cases b13 <;> decide
def spec_l9Copy.mask (b0 b3 b4 b7 b10 b11 b12 b13 : Bool) : Array Bool := #[b0, true, true, b3, b4, true, true, b7, true, true, b10, b11, b12, b13]
def spec_l9Copy.left (b0 b3 b4 b7 b10 b11 b12 b13 : Bool) : Nat := (!b0).toNat + (!b3).toNat + (!b4).toNat + (!b7).toNat + (!b10).toNat + (!b11).toNat + (!b12).toNat + (!b13).toNat
def spec_l9Copy.may (b0 b3 b4 b7 b10 b11 b12 b13 : Bool) (i : Nat) : Bool := (i == 0 && !b0) || (i == 3 && b0 && !b3) || (i == 4 && !b4) || (i == 7 && b4 && !b7) || (i == 10 && !b10) || (i == 11 && b3 && b7 && b10 && !b11) || (i == 12 && !b12) || (i == 13 && b11 && b12 && !b13)
noncomputable def spec_l9Copy.chk (b0 b3 b4 b7 b10 b11 b12 b13 : Bool) : Bool := !(spec_l9Copy.cons b0 b3 b4 b7 b10 b11 b12 b13) || ((spec_l9Copy.left b0 b3 b4 b7 b10 b11 b12 b13 == 0 || !(Region.ready .any (opsOf Try.f76 1) (spec_l9Copy.mask b0 b3 b4 b7 b10 b11 b12 b13)).isEmpty) && (Region.ready .any (opsOf Try.f76 1) (spec_l9Copy.mask b0 b3 b4 b7 b10 b11 b12 b13)).all (spec_l9Copy.may b0 b3 b4 b7 b10 b11 b12 b13))
theorem all2_ {p : Bool → Bool} (h : [true, false].all p = true) (b : Bool) : p b = true := List.all_eq_true.1 h b (by cases b <;> simp)
theorem spec_l9Copy.chks : ∀ b0 b3 b4 b7 b10 b11 b12 b13, spec_l9Copy.chk b0 b3 b4 b7 b10 b11 b12 b13 = true := by
  have H : ([true, false].all fun b0 => [true, false].all fun b3 => [true, false].all fun b4 => [true, false].all fun b7 => [true, false].all fun b10 => [true, false].all fun b11 => [true, false].all fun b12 => [true, false].all fun b13 => spec_l9Copy.chk b0 b3 b4 b7 b10 b11 b12 b13) = true := by kernel_rfl
  intro b0 b3 b4 b7 b10 b11 b12 b13
  exact all2_ (all2_ (all2_ (all2_ (all2_ (all2_ (all2_ (all2_ H b0) b3) b4) b7) b10) b11) b12) b13
set_option maxHeartbeats 4000000 in
set_option maxRecDepth 100000 in
theorem spec_l9Copy.calls (k : Nat) (ai : Option Addr) (ah : Nat) (ab : List Int) (ak : Option Addr) (aj : Nat) (aa : List Int) (af : Int) (ag : Int) (ae : Int) (am : Option Addr) (al : Nat) (ac : List (S55)) (r1 : List Int) (r2 : List Int) (r3 : Int) (r4 : Int) (r5 : Int) (r6 : List (S55)) (w : World) (ap : Kd.C (Kd.int .u8) w ai ab.length ab) (au : ab.length ≤ ah) (aq : Kd.C (Kd.int .u8) w ak aa.length aa) (ar : aa.length ≤ aj) (av : Kd.C k55 w am ac.length ac) (ao : ac.length ≤ al) (h : spec_l9Copy.f k ab aa af ag ae ac = some (r1, r2, r3, r4, r5, r6)) :
  Calls Try.prog 76 #[.agg #[.slice ai ab.length ah, .slice ak aa.length aj, .int .i64 af, .int .i64 ag, .int .i64 ae, .slice am ac.length al]] w fun e w' => ∃ v0_ v1_ v5_ : Value, e = .returned (.agg #[v0_, v1_, .int .i64 r3, .int .i64 r4, .int .i64 r5, v5_]) ∧ Kd.R (Kd.int .u8) 5 w' w.heap.size (fun k_ => some k_ ≠ (v1_ : Value).ownBlock) v0_ r1 ∧ Kd.R (Kd.int .u8) 5 w' w.heap.size (fun k_ => some k_ ≠ (v0_ : Value).ownBlock) v1_ r2 ∧ Kd.S k55 55 w' w.heap.size (fun k_ => some k_ ≠ (v0_ : Value).ownBlock ∧ some k_ ≠ (v1_ : Value).ownBlock) v5_ r6 ∧ Below w.heap.size w w' := by
 have hu33 := Try.underlying33
 have hu55 := Try.underlying55
 have hu30 := Try.underlying30
 have HR0 := aM (And.intro ap au)
 have HR1 := aM (And.intro aq ar)
 have HR5 := aM (And.intro av ao)
 have HB := aM (Below.refl w.heap.size w)
 have HS := aM (show Sep w.heap.size w [] from trivial)
 clear ap au aq ar av ao
 unfold spec_l9Copy.f at h
 simp only [Option.bind_some] at h
 replace h := ifN h; obtain ⟨L0, h⟩ := h
 replace h := ifN h; obtain ⟨L1, h⟩ := h
 simp only [List.nil_append] at h
 have H1 := aM h
 have L0' := aM L0
 have L1' := aM L1
 clear h L0 L1
 go_enter Try.func76, Try.ntmps76
 go_wp2_with (first | ((with_reducible refine gate_dst (N := 1) rfl ?_); refine gBx 1 #[.slice ai ab.length ah, .slice ak aa.length aj, .int .i64 af, .int .i64 ag, .int .i64 ae, .slice am ac.length al] 33 ?_; intro g1 hg w2 hbox hb; replace HS := aM (Sep.blk HS.out hb HB.out.size hg hbox); replace HB := aM (below_step HB.out hb); clear hb hbox hg; (simp only [Act.put, List.setIfInBounds_toArray, List.set_cons_zero, List.set_cons_succ])) | ((with_reducible refine gate_dst (N := 2) rfl ?_); refine gBx 2 #[.slice none 0 0, .slice none 0 0, .int .i64 0, .int .i64 0, .int .i64 0, .slice none 0 0] 33 ?_; intro g2 hg w2 hbox hb; replace HS := aM (Sep.blk HS.out hb HB.out.size hg hbox); replace HB := aM (below_step HB.out hb); clear hb hbox hg; (simp only [Act.put, List.setIfInBounds_toArray, List.set_cons_zero, List.set_cons_succ])))
 replace HS := aM (HS.out.below (bd1 rfl))
 replace HB := aM (below_step HB.out (bd1 rfl))
 refine start_ (n := 14) (S := fun w' => w'.cell? ⟨g1, 0, none⟩ = some (.slice ai ab.length ah) ∧ w'.cell? ⟨g1, 1, none⟩ = some (.slice ak aa.length aj) ∧ w'.cell? ⟨g1, 2, none⟩ = some (.int .i64 af) ∧ w'.cell? ⟨g1, 3, none⟩ = some (.int .i64 ag) ∧ w'.cell? ⟨g1, 4, none⟩ = some (.int .i64 ae) ∧ w'.cell? ⟨g1, 5, none⟩ = some (.slice am ac.length al)) (ds := []) (Array.replicate 14 false) (by kernel_rfl) rfl rfl (cz6 (blkP (Sep.p1 HS.out))) (fun hHeld => ?_)
 generalize hw_ : World.drew _ = w3 at HS HB hHeld ⊢
 clear hw_
 refine pP 1 (some 7) ?_
 refine pP 5 (some 11) ?_
 refine pP 8 (some 14) ?_
 refine pT 2 (some 8) ?_
 refine pT 6 (some 12) ?_
 refine pT 9 (some 15) ?_
 clear hHeld
 refine free_ (σ := spec_l9Copy.R1) (fun s => spec_l9Copy.mask s.b0 s.b3 s.b4 s.b7 s.b10 s.b11 s.b12 s.b13) (fun s => { tmps := #[.agg #[.slice ai ab.length ah, .slice ak aa.length aj, .int .i64 af, .int .i64 ag, .int .i64 ae, .slice am ac.length al], .pointer (some ⟨g1, 0, none⟩), .pointer (some ⟨g2, 0, none⟩), s.v3, undef, undef, s.v6, .pointer (some ⟨g1, 0, none⟩), .slice ai ab.length ah, s.v9, s.v10, .pointer (some ⟨g1, 1, none⟩), .slice ak aa.length aj, s.v13, .pointer (some ⟨g1, 2, none⟩), .agg #[.int .i64 af, .int .i64 ag, .int .i64 ae], s.v16, s.v17, undef, undef, undef, undef, undef, undef, undef, undef, undef, undef, undef, undef, undef, undef, undef, undef, undef, undef, undef, undef], defers := [] }) (fun s => spec_l9Copy.left s.b0 s.b3 s.b4 s.b7 s.b10 s.b11 s.b12 s.b13) (fun s W => spec_l9Copy.cons s.b0 s.b3 s.b4 s.b7 s.b10 s.b11 s.b12 s.b13 = true ∧ Below w.heap.size w W ∧ ∃ (xA yA xB yB xP yP gX : Nat), Sep w.heap.size W [(if s.b3 = true then iRow (Kd.int .u8) 5 w.heap.size xA yA s.v9 ab else if s.b0 = true then iRow (Kd.int .u8) 5 w.heap.size xA yA s.v6 [] else nilI w.heap.size), (if s.b7 = true then iRow (Kd.int .u8) 5 w.heap.size xB yB s.v13 aa else if s.b4 = true then iRow (Kd.int .u8) 5 w.heap.size xB yB s.v10 [] else nilI w.heap.size), (if s.b10 = true then iSow k55 55 w.heap.size xP yP s.v16 [] else nilI w.heap.size), (if s.b12 = true then iBlk gX (if s.b13 = true then #[s.v9, s.v13, .int .i64 af, .int .i64 ag, .int .i64 ae, s.v16] else #[.slice none 0 0, .slice none 0 0, .int .i64 0, .int .i64 0, .int .i64 0, .slice none 0 0]) 33 else nilI w.heap.size), iBlk g2 #[.slice none 0 0, .slice none 0 0, .int .i64 0, .int .i64 0, .int .i64 0, .slice none 0 0] 33, iBlk g1 #[.slice ai ab.length ah, .slice ak aa.length aj, .int .i64 af, .int .i64 ag, .int .i64 ae, .slice am ac.length al] 33] ∧ (s.b11 = true → s.v17 = .agg #[s.v9, s.v13, .int .i64 af, .int .i64 ag, .int .i64 ae, s.v16]) ∧ (s.b12 = true → s.v3 = .pointer (some ⟨gX, 0, none⟩))) (n0 := 0) ?hS ?hready ?hstep ?hcont 8 ⟨false, false, false, false, false, false, false, false, undef, undef, undef, undef, undef, undef, undef⟩ _ (by rfl) ?hI0
 case hS =>
  intro s W h
  obtain ⟨_, _, xA, yA, xB, yB, xP, yP, gX, hS, _, _⟩ := h
  exact cz6 (blkP (Sep.p5 hS))
 case hready =>
  intro s W h hc
  have hk := spec_l9Copy.chks s.b0 s.b3 s.b4 s.b7 s.b10 s.b11 s.b12 s.b13
  unfold spec_l9Copy.chk at hk
  rw [h.1] at hk
  simp only [Bool.not_true, Bool.false_or, Bool.and_eq_true, Bool.or_eq_true, beq_iff_eq, Bool.not_eq_true'] at hk
  rcases hk.1 with q | q
  ·exact absurd q hc
  ·intro e
   have q' : (Region.ready .any (opsOf Try.f76 1) (spec_l9Copy.mask s.b0 s.b3 s.b4 s.b7 s.b10 s.b11 s.b12 s.b13)).isEmpty = true := by
    rw [show Region.ready .any (opsOf Try.f76 1) (spec_l9Copy.mask s.b0 s.b3 s.b4 s.b7 s.b10 s.b11 s.b12 s.b13) = [] from e]
    rfl
   rw [q] at q'
   cases q'
 case hI0 => exact ⟨rfl, HB.out, 0, 0, 0, 0, 0, 0, 0, nilI_4 HB.out.size HS.out, (fun q => by cases q), (fun q => by cases q)⟩
 case hstep =>
  intro s W hI hcs i hi
  obtain ⟨b0, b3, b4, b7, b10, b11, b12, b13, v6, v9, v10, v13, v16, v17, v3⟩ := s
  obtain ⟨hc, hB, xA, yA, xB, yB, xP, yP, gX, hS, h17, h3⟩ := hI
  dsimp only at hc hS h17 h3 hcs hi
  have hk := spec_l9Copy.chks b0 b3 b4 b7 b10 b11 b12 b13
  unfold spec_l9Copy.chk at hk
  rw [hc] at hk
  simp only [Bool.not_true, Bool.false_or, Bool.and_eq_true] at hk
  have hm := List.all_eq_true.1 hk.2 i hi
  clear hk hcs hi
  obtain ⟨k1, k2, k3, k4⟩ := spec_l9Copy.cons_iff.1 hc
  clear hc
  unfold spec_l9Copy.may at hm
  simp only [Bool.or_eq_true, Bool.and_eq_true, beq_iff_eq, Bool.not_eq_true'] at hm
  rcases hm with ((((((h | h) | h) | h) | h) | h) | h) | h
  ·obtain ⟨rfl, rfl⟩ := h
   have e_ : b3 = false := Bool.eq_false_iff.2 (fun q => by have := k1 q; simp at this); subst e_
   have e_ : b11 = false := Bool.eq_false_iff.2 (fun q => by have := k3 q; simp at this); subst e_
   simp only [Bool.false_eq_true, if_false, if_true] at hS
   refine ⟨by simp, ?_⟩
   refine ex_get (by rfl) ?_
   intro K hK
   refine Kd.R_lit_step (Kd.int .u8) _ 5 ?hg (N := 6) ?hd (xs := []) (inner := []) (ok := fun _ => True) (okp := fun _ => True) ?hr ?hp (fun _ hk => hk) trivial (Below.refl _ _) (Nat.le_refl _) (by simp) ?_; (case hd => rfl); (case hg => rfl); (case hr => first | (go_simp; done) | (go_simp; rfl)); (case hp => exact (Reps.none _ _))
   intro v w9 ho hb hg_ hnew_
   have hS' := Sep.row hS.drop hb hB.size ho
   refine hK.out ⟨true, false, b4, b7, b10, false, b12, b13, v, v9, v10, v13, v16, v17, v3⟩ w9 ⟨spec_l9Copy.cons_iff.2 ⟨by first | exact k1 | simp, by first | exact k2 | simp, by first | exact k3 | simp, by first | exact k4 | simp⟩, below_step hB hb, W.heap.size, w9.heap.size, xB, yB, xP, yP, gX, ?_, (fun q => by cases q), h3⟩ (by simp [spec_l9Copy.mask]) (by simp [spec_l9Copy.left] <;> omega)
   simp only [Bool.false_eq_true, if_false, if_true]
   exact hS'
  ·obtain ⟨⟨rfl, rfl⟩, rfl⟩ := h
   have e_ : b11 = false := Bool.eq_false_iff.2 (fun q => by have := k3 q; simp at this); subst e_
   have e_ : b13 = false := Bool.eq_false_iff.2 (fun q => by have := k4 q; simp at this); subst e_
   simp only [Bool.false_eq_true, if_false, if_true] at hS
   refine ⟨by simp, ?_⟩
   refine ex_get (by rfl) ?_
   intro K hK
   refine Kd.R_append_rows_step (Kd.int .u8) (w0 := w) w.heap.size (by rfl) (.tmp 6) (.tmp 8) 22 5 (.int .u8 0) 1 rfl Try.underlying22 info5 rfl (by decide) (by omega) v6 [] ab _ _ _ (fun _ => True) (fun _ => False) rfl rfl ?aO (Kd.C_below HR0.out.1 hB) (fun _ _ h => h) (fun _ h => h.elim) (fun _ _ => trivial) hB hB.size (by have := L0'.out; simp only [List.length_nil] at this ⊢; omega) ?_
   case aO => exact Kd.R_mono (show (Kd.int .u8).R 5 W w.heap.size (fun k => xA ≤ k ∧ k < yA) v6 [] from hS.p0) (fun _ _ => trivial)
   intro v w9 ho hb hg hat
   rw [List.nil_append] at ho
   obtain ⟨x', y', hS'⟩ := Sep.app rfl hS hB.size ho hg hat
   refine hK.out ⟨true, true, b4, b7, b10, false, b12, false, v6, v, v10, v13, v16, v17, v3⟩ w9 ⟨spec_l9Copy.cons_iff.2 ⟨by first | exact k1 | simp, by first | exact k2 | simp, by first | exact k3 | simp, by first | exact k4 | simp⟩, hb, x', y', xB, yB, xP, yP, gX, ?_, (fun q => by cases q), h3⟩ (by simp [spec_l9Copy.mask]) (by simp [spec_l9Copy.left] <;> omega)
   simp only [Bool.false_eq_true, if_false, if_true]
   exact hS'
  ·obtain ⟨rfl, rfl⟩ := h
   have e_ : b7 = false := Bool.eq_false_iff.2 (fun q => by have := k2 q; simp at this); subst e_
   have e_ : b11 = false := Bool.eq_false_iff.2 (fun q => by have := k3 q; simp at this); subst e_
   simp only [Bool.false_eq_true, if_false, if_true] at hS
   refine ⟨by simp, ?_⟩
   refine ex_get (by rfl) ?_
   intro K hK
   refine Kd.R_lit_step (Kd.int .u8) _ 5 ?hg (N := 10) ?hd (xs := []) (inner := []) (ok := fun _ => True) (okp := fun _ => True) ?hr ?hp (fun _ hk => hk) trivial (Below.refl _ _) (Nat.le_refl _) (by simp) ?_; (case hd => rfl); (case hg => rfl); (case hr => first | (go_simp; done) | (go_simp; rfl)); (case hp => exact (Reps.none _ _))
   intro v w9 ho hb hg_ hnew_
   have hS' := Sep.f1 (Sep.row hS.f1.drop hb hB.size ho)
   refine hK.out ⟨b0, b3, true, false, b10, false, b12, b13, v6, v9, v, v13, v16, v17, v3⟩ w9 ⟨spec_l9Copy.cons_iff.2 ⟨by first | exact k1 | simp, by first | exact k2 | simp, by first | exact k3 | simp, by first | exact k4 | simp⟩, below_step hB hb, xA, yA, W.heap.size, w9.heap.size, xP, yP, gX, ?_, (fun q => by cases q), h3⟩ (by simp [spec_l9Copy.mask]) (by simp [spec_l9Copy.left] <;> omega)
   simp only [Bool.false_eq_true, if_false, if_true]
   exact hS'
  ·obtain ⟨⟨rfl, rfl⟩, rfl⟩ := h
   have e_ : b11 = false := Bool.eq_false_iff.2 (fun q => by have := k3 q; simp at this); subst e_
   have e_ : b13 = false := Bool.eq_false_iff.2 (fun q => by have := k4 q; simp at this); subst e_
   simp only [Bool.false_eq_true, if_false, if_true] at hS
   refine ⟨by simp, ?_⟩
   refine ex_get (by rfl) ?_
   intro K hK
   refine Kd.R_append_rows_step (Kd.int .u8) (w0 := w) w.heap.size (by rfl) (.tmp 10) (.tmp 12) 22 5 (.int .u8 0) 1 rfl Try.underlying22 info5 rfl (by decide) (by omega) v10 [] aa _ _ _ (fun _ => True) (fun _ => False) rfl rfl ?aO (Kd.C_below HR1.out.1 hB) (fun _ _ h => h) (fun _ h => h.elim) (fun _ _ => trivial) hB hB.size (by have := L1'.out; simp only [List.length_nil] at this ⊢; omega) ?_
   case aO => exact Kd.R_mono (show (Kd.int .u8).R 5 W w.heap.size (fun k => xB ≤ k ∧ k < yB) v10 [] from hS.p1) (fun _ _ => trivial)
   intro v w9 ho hb hg hat
   rw [List.nil_append] at ho
   obtain ⟨x', y', hS'⟩ := Sep.app rfl hS.f1 hB.size ho hg hat
   refine hK.out ⟨b0, b3, true, true, b10, false, b12, false, v6, v9, v10, v, v16, v17, v3⟩ w9 ⟨spec_l9Copy.cons_iff.2 ⟨by first | exact k1 | simp, by first | exact k2 | simp, by first | exact k3 | simp, by first | exact k4 | simp⟩, hb, xA, yA, x', y', xP, yP, gX, ?_, (fun q => by cases q), h3⟩ (by simp [spec_l9Copy.mask]) (by simp [spec_l9Copy.left] <;> omega)
   simp only [Bool.false_eq_true, if_false, if_true]
   exact hS'.f1
  ·obtain ⟨rfl, rfl⟩ := h
   have e_ : b11 = false := Bool.eq_false_iff.2 (fun q => by have := k3 q; simp at this); subst e_
   have e_ : b13 = false := Bool.eq_false_iff.2 (fun q => by have := k4 q; simp at this); subst e_
   simp only [Bool.false_eq_true, if_false, if_true] at hS
   refine ⟨by simp, ?_⟩
   refine ex_get (by rfl) ?_
   intro K hK
   refine Kd.S_lit_step k55 _ 55 ?hg (N := 16) ?hd (xs := []) (inner := []) (ok := fun _ => True) (okp := fun _ => True) ?hr ?hp (fun _ hk => hk) trivial (Below.refl _ _) (Nat.le_refl _) (by simp) ?_; (case hd => rfl); (case hg => rfl); (case hr => first | (go_simp; done) | (go_simp; rfl)); (case hp => exact (Reps.none _ _))
   intro v w9 ho hb hg_ hnew_
   have hS' := Sep.f2 (Sep.f2 (Sep.sow hS.f2.drop hb hB.size ho))
   refine hK.out ⟨b0, b3, b4, b7, true, false, b12, false, v6, v9, v10, v13, v, v17, v3⟩ w9 ⟨spec_l9Copy.cons_iff.2 ⟨by first | exact k1 | simp, by first | exact k2 | simp, by first | exact k3 | simp, by first | exact k4 | simp⟩, below_step hB hb, xA, yA, xB, yB, W.heap.size, w9.heap.size, gX, ?_, (fun q => by cases q), h3⟩ (by simp [spec_l9Copy.mask]) (by simp [spec_l9Copy.left] <;> omega)
   simp only [Bool.false_eq_true, if_false, if_true]
   exact hS'
  ·obtain ⟨⟨⟨⟨rfl, rfl⟩, rfl⟩, rfl⟩, rfl⟩ := h
   obtain rfl := k1 rfl
   obtain rfl := k2 rfl
   have e_ : b13 = false := Bool.eq_false_iff.2 (fun q => by have := k4 q; simp at this); subst e_
   simp only [Bool.false_eq_true, if_false, if_true] at hS
   obtain ⟨A9, c9, e9⟩ := Kd.R_slice (show (Kd.int .u8).R 5 W w.heap.size (fun k => xA ≤ k ∧ k < yA) v9 ab from hS.p0)
   subst e9
   obtain ⟨A13, c13, e13⟩ := Kd.R_slice (show (Kd.int .u8).R 5 W w.heap.size (fun k => xB ≤ k ∧ k < yB) v13 aa from hS.p1)
   subst e13
   obtain ⟨A16, c16, e16⟩ := Kd.S_slice (show Kd.S k55 55 W w.heap.size (fun k => xP ≤ k ∧ k < yP) v16 [] from hS.p2)
   subst e16
   refine ⟨by simp, ?_⟩
   refine ex_get (by rfl) ?_
   intro K hK
   refine value_ (v := .agg #[.slice A9 ab.length c9, .slice A13 aa.length c13, .int .i64 af, .int .i64 ag, .int .i64 ae, .slice A16 ([] : List S55).length c16]) (w1 := W) (by rfl) rfl (by first | (go_simp; done) | (go_simp; rfl)) ?_
   refine hK.out ⟨true, true, true, true, true, true, b12, false, v6, .slice A9 ab.length c9, v10, .slice A13 aa.length c13, .slice A16 ([] : List S55).length c16, .agg #[.slice A9 ab.length c9, .slice A13 aa.length c13, .int .i64 af, .int .i64 ag, .int .i64 ae, .slice A16 ([] : List S55).length c16], v3⟩ W ⟨spec_l9Copy.cons_iff.2 ⟨by first | exact k1 | simp, by first | exact k2 | simp, by first | exact k3 | simp, by first | exact k4 | simp⟩, hB, xA, yA, xB, yB, xP, yP, gX, ?_, (fun _ => rfl), h3⟩ (by simp [spec_l9Copy.mask]) (by simp [spec_l9Copy.left] <;> omega)
   simp only [Bool.false_eq_true, if_false, if_true]
   exact hS
  ·obtain ⟨rfl, rfl⟩ := h
   have e_ : b13 = false := Bool.eq_false_iff.2 (fun q => by have := k4 q; simp at this); subst e_
   simp only [Bool.false_eq_true, if_false, if_true] at hS
   refine ⟨by simp, ?_⟩
   refine ex_get (by rfl) ?_
   intro K hK
   refine gBxS 3 #[.slice none 0 0, .slice none 0 0, .int .i64 0, .int .i64 0, .int .i64 0, .slice none 0 0] 33 ?_
   intro g hg w9 hbox hb
   have hS' := Sep.f3 (Sep.f3 (Sep.f3 (Sep.blk hS.f3.drop hb hB.size hg hbox)))
   refine hK.out ⟨b0, b3, b4, b7, b10, b11, true, false, v6, v9, v10, v13, v16, v17, .pointer (some ⟨g, 0, none⟩)⟩ w9 ⟨spec_l9Copy.cons_iff.2 ⟨by first | exact k1 | simp, by first | exact k2 | simp, by first | exact k3 | simp, by first | exact k4 | simp⟩, below_step hB hb, xA, yA, xB, yB, xP, yP, g, ?_, h17, (fun _ => rfl)⟩ (by simp [spec_l9Copy.mask]) (by simp [spec_l9Copy.left] <;> omega)
   simp only [Bool.false_eq_true, if_false, if_true]
   exact hS'
  ·obtain ⟨⟨⟨rfl, rfl⟩, rfl⟩, rfl⟩ := h
   obtain ⟨rfl, rfl, rfl⟩ := k3 rfl
   obtain rfl := k1 rfl
   obtain rfl := k2 rfl
   simp only [Bool.false_eq_true, if_false, if_true] at hS
   obtain rfl := h3 rfl
   obtain rfl := h17 rfl
   obtain ⟨A9, c9, e9⟩ := Kd.R_slice (show (Kd.int .u8).R 5 W w.heap.size (fun k => xA ≤ k ∧ k < yA) v9 ab from hS.p0)
   subst e9
   obtain ⟨A13, c13, e13⟩ := Kd.R_slice (show (Kd.int .u8).R 5 W w.heap.size (fun k => xB ≤ k ∧ k < yB) v13 aa from hS.p1)
   subst e13
   obtain ⟨A16, c16, e16⟩ := Kd.S_slice (show Kd.S k55 55 W w.heap.size (fun k => xP ≤ k ∧ k < yP) v16 [] from hS.p2)
   subst e16
   refine ⟨by simp, ?_⟩
   refine ex_get (by rfl) ?_
   intro K hK
   refine gStS [.slice A9 ab.length c9, .slice A13 aa.length c13, .int .i64 af, .int .i64 ag, .int .i64 ae, .slice A16 ([] : List S55).length c16] #[.slice A9 ab.length c9, .slice A13 aa.length c13, .int .i64 af, .int .i64 ag, .int .i64 ae, .slice A16 ([] : List S55).length c16] (blkP (Sep.p3 hS)) ?_
   intro w9 hw hbox
   have hb := hw.below hB (Sep.r3 hS).1
   have hS' := Sep.f3 (Sep.f3 (Sep.f3 (Sep.wr hS.f3 hw hbox)))
   refine hK.out ⟨true, true, true, true, true, true, true, true, v6, .slice A9 ab.length c9, v10, .slice A13 aa.length c13, .slice A16 ([] : List S55).length c16, .agg #[.slice A9 ab.length c9, .slice A13 aa.length c13, .int .i64 af, .int .i64 ag, .int .i64 ae, .slice A16 ([] : List S55).length c16], .pointer (some ⟨gX, 0, none⟩)⟩ w9 ⟨spec_l9Copy.cons_iff.2 ⟨by first | exact k1 | simp, by first | exact k2 | simp, by first | exact k3 | simp, by first | exact k4 | simp⟩, hb, xA, yA, xB, yB, xP, yP, gX, ?_, (fun _ => rfl), (fun _ => rfl)⟩ (by simp [spec_l9Copy.mask]) (by simp [spec_l9Copy.left] <;> omega)
   simp only [Bool.false_eq_true, if_false, if_true]
   exact hS'
 case hcont =>
  intro s W hI hc
  obtain ⟨b0, b3, b4, b7, b10, b11, b12, b13, v6, v9, v10, v13, v16, v17, v3⟩ := s
  obtain ⟨hc', hB, xA, yA, xB, yB, xP, yP, gX, hS, h17, h3⟩ := hI
  dsimp only at hc' hS h17 h3 hc
  obtain ⟨rfl, rfl, rfl, rfl, rfl, rfl, rfl, rfl⟩ : b0 = true ∧ b3 = true ∧ b4 = true ∧ b7 = true ∧ b10 = true ∧ b11 = true ∧ b12 = true ∧ b13 = true := by
   unfold spec_l9Copy.left at hc
   have z : ∀ b : Bool, (!b).toNat = 0 → b = true := by decide
   exact ⟨z _ (by omega), z _ (by omega), z _ (by omega), z _ (by omega), z _ (by omega), z _ (by omega), z _ (by omega), z _ (by omega)⟩
  clear hc hc'
  simp only [Bool.false_eq_true, if_false, if_true] at hS
  obtain rfl := h3 rfl
  obtain rfl := h17 rfl
  clear h3 h17
  obtain ⟨A9, c9, e9⟩ := Kd.R_slice (show (Kd.int .u8).R 5 W w.heap.size (fun k => xA ≤ k ∧ k < yA) v9 ab from hS.p0)
  subst e9
  obtain ⟨A13, c13, e13⟩ := Kd.R_slice (show (Kd.int .u8).R 5 W w.heap.size (fun k => xB ≤ k ∧ k < yB) v13 aa from hS.p1)
  subst e13
  obtain ⟨A16, c16, e16⟩ := Kd.S_slice (show Kd.S k55 55 W w.heap.size (fun k => xP ≤ k ∧ k < yP) v16 [] from hS.p2)
  subst e16
  have HD := aM (Dsk.of_sep hS)
  have B5 := aM (blkP (Sep.p3 hS))
  have B4 := aM (blkP (Sep.p4 hS))
  have B1 := aM (blkP (Sep.p5 hS))
  have HG5 := aM (show w.heap.size ≤ gX from (Sep.r3 hS).1)
  have HG4 := aM (show w.heap.size ≤ g2 from (Sep.r4 hS).1)
  have q4 : g2 + 1 ≤ gX ∨ gX + 1 ≤ g2 := hS.2.2.2.1.2.1
  have q1 : g1 + 1 ≤ gX ∨ gX + 1 ≤ g1 := hS.2.2.2.1.2.2.1
  have N4 := aM (show g2 ≠ gX by omega)
  have N1 := aM (show g1 ≠ gX by omega)
  replace HB := aM hB
  clear hS hB HS q4 q1
  refine done_ (by kernel_rfl) ?_
  try go_wp2
  go_loopg [4] k (fun kq v4 w' => ∃ (i : Int) (A16 : Option Addr) (c16 : Nat) (x : List S55), v4 = .int .i64 i ∧ Aside0 (spec_l9Copy.l0 kq i ab aa af ag ae ac ab aa af ag ae x = some (r1, r2, r3, r4, r5, r6)) ∧ Aside0 (kq ≤ k) ∧ Aside0 (w'.heap[gX]? = some (.cells #[.slice A9 ab.length c9, .slice A13 aa.length c13, .int .i64 af, .int .i64 ag, .int .i64 ae, .slice A16 x.length c16] 33 (0, 0))) ∧ Aside0 (w'.heap[g2]? = some (.cells #[.slice none 0 0, .slice none 0 0, .int .i64 0, .int .i64 0, .int .i64 0, .slice none 0 0] 33 (0, 0))) ∧ Aside0 (w'.heap[g1]? = some (.cells #[.slice ai ab.length ah, .slice ak aa.length aj, .int .i64 af, .int .i64 ag, .int .i64 ae, .slice am ac.length al] 33 (0, 0))) ∧ Aside0 (Dsk w' w.heap.size (.slice A9 ab.length c9) (.slice A13 aa.length c13) (.slice A16 x.length c16) ab aa x) ∧ Aside0 (Below w.heap.size w w'))
  case atStart => exact ⟨0, A16, c16, [], rfl, H1, ⟨Nat.le_refl _⟩, B5, B4, B1, HD, HB⟩
  case round =>
   clear H1 B5 B4 B1 HD HB
   obtain ⟨i, A16, c16, x, rfl, HA, HK1, B5, B4, B1, HD, HB⟩ := hrel
   cases gk with
   | zero => exact absurd HA.out (by simp [spec_l9Copy.l0])
   | succ k1 =>
    have H := HA.out
    clear HA
    simp only [spec_l9Copy.l0] at H
    obtain ⟨hcz0, hcz1, hcz2, hcz3, hcz4, hcz5⟩ := cz6 B1.out
    by_cases c3 : i < (ac.length : Int)
    ·rw [if_pos c3] at H
     have c3b : decide (i < (ac.length : Int)) = true := decide_eq_true c3
     replace H := ifN H
     obtain ⟨c4, H⟩ := H
     replace H := bE H
     obtain ⟨⟨t1, t2, t3, t4, t5, t6⟩, A5, H⟩ := H
     dsimp only at A5 H
     replace H := ifN H
     obtain ⟨cx, H⟩ := H
     have LX := aM cx
     have H' := aM H
     clear H cx
     obtain ⟨ad, A2, c2, e0, hx0, hx1, hx2, hx3, hx4, hx5, hl2, hi2⟩ := at_T55 HR5.out.1 i c4 c3
     cases e0
     replace hx0 := (HB.out.cell (World.block_lt_of_cell? w _ hx0)).trans hx0
     replace hx1 := (HB.out.cell (World.block_lt_of_cell? w _ hx1)).trans hx1
     replace hx2 := (HB.out.cell (World.block_lt_of_cell? w _ hx2)).trans hx2
     replace hx3 := (HB.out.cell (World.block_lt_of_cell? w _ hx3)).trans hx3
     replace hx4 := (HB.out.cell (World.block_lt_of_cell? w _ hx4)).trans hx4
     replace hx5 := (HB.out.cell (World.block_lt_of_cell? w _ hx5)).trans hx5
     have HE2 := aM (And.intro hi2 hl2)
     clear hi2 hl2
     have p0 : (0 ≤ i) = True := eq_true c4
     have q0 : (i < (ac.length : Int)) = True := eq_true c3
     have c4b : decide (0 ≤ i) = true := decide_eq_true c4
     clear c3 c4
     go_wp2_with (first | ((with_reducible refine gate_callee (f := 92) rfl ?_); refine gL (some 30) Try.func92 #[.agg #[.int .i64 (rd_T55 ac i).f0, .int .i64 (rd_T55 ac i).f1, .slice A2 (rd_T55 ac i).f2.length c2, .int .i64 (rd_T55 ac i).f3.f0, .int .i64 (rd_T55 ac i).f3.f1, .int .i64 (rd_T55 ac i).f3.f2]] ?_; refine (spec_l9CopyPut.calls ((rd_T55 ac i).f0) ((rd_T55 ac i).f1) _ _ ((rd_T55 ac i).f2) ((rd_T55 ac i).f3.f0) ((rd_T55 ac i).f3.f1) ((rd_T55 ac i).f3.f2) t1 t2 t3 t4 t5 t6 _ (Kd.C_below HE2.out.1 HB.out) HE2.out.2 A5.out).mono ?_; rintro e_ w5 ⟨v7, rfl, ho, hb⟩; refine ⟨_, rfl, ?_⟩; have hn := Kd.R_base ho; obtain ⟨A7, c7, e7⟩ := Kd.R_slice ho; subst e7; have HQ := aM (show Kd.S k55 55 _ w.heap.size (fun k => (some k ≠ (Value.slice A9 ab.length c9).ownBlock ∧ some k ≠ (Value.slice A13 aa.length c13).ownBlock) ∧ ¬ some k = (Value.slice A7 t3.length c7).ownBlock) (.slice A16 x.length c16) x from Kd.S_mono (Kd.S_below (Kd.S_bound HD.out.2.2) hb) (fun k q => ⟨q.1, fun e => by have := hn k e.symm; have := q.2.2.1; omega⟩)); have HE := aM (show (Kd.int .u8).R 5 _ w.heap.size (fun k => (some k ≠ (Value.slice A9 ab.length c9).ownBlock ∧ some k ≠ (Value.slice A13 aa.length c13).ownBlock) ∧ some k ≠ (Value.slice A16 x.length c16).ownBlock) (.slice A7 t3.length c7) t3 from Kd.R_lower (Kd.R_mono (Kd.R_bound ho) (fun k q => ⟨⟨fun e => by have := Kd.R_lt HD.out.1 k e.symm; have := q.2.1; omega, fun e => by have := Kd.R_lt HD.out.2.1 k e.symm; have := q.2.1; omega⟩, fun e => by have := Kd.S_lt HD.out.2.2 k e.symm; have := q.2.1; omega⟩)) HB.out.size); replace HD := aM (HD.out.below hb); replace B4 := aM (blk_below B4.out hb); replace B5 := aM (blk_below B5.out hb); replace B1 := aM (blk_below B1.out hb); replace HB := aM (below_step HB.out hb); clear ho hb hn hcz0 hcz1 hcz2 hcz3 hcz4 hcz5 hx0 hx1 hx2 hx3 hx4 hx5; (simp only [Act.put, List.setIfInBounds_toArray, List.set_cons_zero, List.set_cons_succ])) | ((with_reducible refine gate_dst (N := 5) rfl ?_); refine gBx 5 #[.int .i64 0, .int .i64 0, .slice none 0 0, .int .i64 0, .int .i64 0, .int .i64 0] 55 ?_; intro g7 hg w2 hbox hb; have B7 := aM hbox; have HN7 := aM (show _ ≤ g7 from (Nat.le_of_eq hg.symm)); have HW7 := aM hb; clear hb hbox hg; (simp only [Act.put, List.setIfInBounds_toArray, List.set_cons_zero, List.set_cons_succ])) | ((with_reducible refine gate_store (t := 55) (p := 5) rfl ?_); refine gSt [.int .i64 t1, .int .i64 t2, .slice A7 t3.length c7, .int .i64 t4, .int .i64 t5, .int .i64 t6] #[.int .i64 t1, .int .i64 t2, .slice A7 t3.length c7, .int .i64 t4, .int .i64 t5, .int .i64 t6] B7.out ?_; intro w7 hw hbox; have hb := hw.below HW7.out HN7.out; replace B7 := aM hbox; replace HD := aM (HD.out.below hb); replace HQ := aM (Kd.S_below HQ.out hb); replace HE := aM (Kd.R_below HE.out hb); replace B4 := aM (blk_below B4.out hb); replace B5 := aM (blk_below B5.out hb); replace B1 := aM (blk_below B1.out hb); replace HB := aM (below_step HB.out hb); clear hw hbox hb HW7 HN7; obtain ⟨hcy0, hcy1, hcy2, hcy3, hcy4, hcy5⟩ := cz6 B5.out) | ((with_reducible refine gate_dst (N := 33) rfl ?_); refine gLd 33 B7.out ?_; (simp only [Act.put, List.setIfInBounds_toArray, List.set_cons_zero, List.set_cons_succ])) | ((with_reducible refine gate_builtin (b := .append) (xs := #[.tmp 32, .tmp 34]) rfl ?_); at_builtin; refine Kd.S_append k55 (w0 := w) w.heap.size rfl (.tmp 32) (.tmp 34) 31 55 (.agg #[(.int .i64 0), (.int .i64 0), (.slice none 0 0), (.int .i64 0), (.int .i64 0), (.int .i64 0)]) 64 rfl Try.underlying31 info55 rfl (by decide) (by omega) (.slice A16 x.length c16) x (⟨t1, t2, t3, (⟨t4, t5, t6⟩ : S30)⟩ : S55) [.int .i64 t1, .int .i64 t2, .slice A7 t3.length c7, .int .i64 t4, .int .i64 t5, .int .i64 t6] (fun k => (some k ≠ (Value.slice A9 ab.length c9).ownBlock ∧ some k ≠ (Value.slice A13 aa.length c13).ownBlock)) (fun k => some k = (Value.slice A7 t3.length c7).ownBlock) rfl rfl (k55_mkM _ _ _ (⟨t1, t2, t3, (⟨t4, t5, t6⟩ : S30)⟩ : S55) (Kd.R_mono (Kd.R_tight rfl HE.out) (fun _ h_ => h_))) (fun k q => HE.out.1 k q.symm) (fun k q => ⟨fun e => by have := Kd.R_lt HD.out.1 k e.symm; omega, fun e => by have := Kd.R_lt HD.out.2.1 k e.symm; omega⟩) HQ.out HB.out HB.out.size (by have := LX.out; omega) ?_; intro v1 w8 ho hb hg hat; replace B4 := aM (blk_grown B4.out hg (Kd.S_ne HD.out.2.2 B4.out (by decide))); replace B5 := aM (blk_grown B5.out hg (Kd.S_ne HD.out.2.2 B5.out (by decide))); replace B1 := aM (blk_grown B1.out hg (Kd.S_ne HD.out.2.2 B1.out (by decide))); replace HD := aM (Dsk.appP HD.out hg ho); replace HB := aM hb; clear ho hb hg hat HQ HE B7 hcy0 hcy1 hcy2 hcy3 hcy4 hcy5; obtain ⟨A17, c17, e17⟩ := Kd.S_slice HD.out.2.2; rw [List.length_append] at e17; replace e17 : v1 = .slice A17 (x.length + 1) c17 := e17; subst e17) | ((with_reducible refine gate_store (t := 31) (p := 36) rfl ?_); refine gSt [.slice A17 (x.length + 1) c17] #[.slice A9 ab.length c9, .slice A13 aa.length c13, .int .i64 af, .int .i64 ag, .int .i64 ae, .slice A17 (x.length + 1) c17] B5.out ?_; intro w9 hw hbox; replace HD := aM (HD.out.off B5.out hw); replace B5 := aM hbox; replace B4 := aM ((hw.2.2 g2 N4.out).trans B4.out); replace B1 := aM ((hw.2.2 g1 N1.out).trans B1.out); replace HB := aM (hw.below HB.out HG5.out); clear hw hbox))
     go_roundg k1
     case measure => have := HK1.out; omega
     case rel => exact ⟨_, A17, c17, x ++ [_], rfl, H', ⟨by have := HK1.out; omega⟩, ⟨by rw [List.length_append]; exact B5.out⟩, B4, B1, ⟨by rw [List.length_append]; exact HD.out⟩, HB⟩
    ·rw [if_neg c3] at H
     have c3b : decide (i < (ac.length : Int)) = false := decide_eq_false c3
     clear c3
     obtain ⟨rfl, rfl, rfl, rfl, rfl, rfl⟩ : ab = r1 ∧ aa = r2 ∧ af = r3 ∧ ag = r4 ∧ ae = r5 ∧ x = r6 := by simpa using H
     clear H
     go_wp2_with (first | ((with_reducible refine gate_dst (N := 37) rfl ?_); refine gLd 37 B5.out ?_; (simp only [Act.put, List.setIfInBounds_toArray, List.set_cons_zero, List.set_cons_succ])) | ((with_reducible refine gate_store (t := 33) (p := 2) rfl ?_); refine gSt [.slice A9 ab.length c9, .slice A13 aa.length c13, .int .i64 af, .int .i64 ag, .int .i64 ae, .slice A16 x.length c16] #[.slice A9 ab.length c9, .slice A13 aa.length c13, .int .i64 af, .int .i64 ag, .int .i64 ae, .slice A16 x.length c16] B4.out ?_; intro w10 hw hbox; replace HD := aM (HD.out.off B4.out hw); replace B4 := aM hbox; replace HB := aM (hw.below HB.out HG4.out); clear hw hbox))
     refine bodyPost_ret (results_cell_row rfl _ _ g2 33 _ (0, 0) _ rfl B4.out hu33 rfl (by kernel_rfl)) rfl ?_
     exact ⟨_, _, _, rfl, HD.out.1, HD.out.2.1, HD.out.2.2, HB.out⟩

end Go.Proofs.Ytogilihkphjjbaa.Q
