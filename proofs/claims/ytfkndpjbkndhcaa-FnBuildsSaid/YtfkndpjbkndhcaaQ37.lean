/- Functions of the program as plain Lean functions, and that a call of each comes to what its function tells. Written by a program of this seat. -/
import Derived.Test.YtfkndpjbkndhcaaQ0
import Derived.Test.YtfkndpjbkndhcaaQ1
import Derived.Test.YtfkndpjbkndhcaaQ24
import Derived.Test.YtfkndpjbkndhcaaQ29
namespace Go.Proofs.Ytfkndpjbkndhcaa.Q
open Go.RowKit Go.Proofs.YtfkndpjbkndhcaaW.PrintWords Go.Proofs.YtfkndpjbkndhcaaW.PrintLast Go.Proofs.YtfkndpjbkndhcaaW.PrintMore
attribute [local go_sem] max2_int min2_int max_two min_two max_three min_three max_four min_four   -- for this text's walks alone
set_option linter.unusedVariables false
set_option linter.unusedSimpArgs false

attribute [local go_sem high] eqA48
/-! ### spec_l8Put: function 93 -/
def spec_l8Put.b (k : Nat) (m0 m1 m2 : Int) (l3 : List S48) (hv : Int) (l : List Int) (i : Int) (b : List Int) : Option Bool := (spec_l1In.f i 0 (wrap64 ((l3.length : Int) - 1))).bind fun t => (if t = true then ((spec_InSet.f hv i).bind fun s => (if s = true then some false else ((spec_SumOf.f k b).bind fun u => (if 0 ≤ i then (if i < (l3.length : Int) then (if (!(u.1 == ((rd_T48 l3 i).f0)) || (!(u.2 == ((rd_T48 l3 i).f1)))) = true then some false else (if (b.length : Int) > 6 then some false else some true)) else none) else none)))) else some false)
def spec_l8Put.l0 : Nat → List Int → Int → List Int → Int → Option (List Int)
  | 0, _, _, _, _ => none
  | k + 1, x, at_, b, j => if j < (b.length : Int) then (if 0 ≤ j then (if 0 ≤ wrap64 (at_ + j) then (if wrap64 (at_ + j) < (x.length : Int) then spec_l8Put.l0 k (x.set (wrap64 (at_ + j)).toNat (rd b j)) at_ b (wrap64 (j + 1)) else none) else none) else none) else some x
def spec_l8Put.f (k : Nat) (m0 m1 m2 : Int) (l3 : List S48) (hv : Int) (l : List Int) (i : Int) (b : List Int) : Option (Int × List Int) := (spec_l8Put.b k m0 m1 m2 l3 hv l i b).bind fun r => (if r = true then ((spec_SpanOf.f m1 m2 i).bind fun q => ((spec_l8Put.l0 k l q.1 b 0).bind fun y => ((spec_WithPart.f hv i).bind fun z => some (z, y)))) else some (hv, l))
theorem spec_l8Put.mono_l : ∀ k y0 y1 y2 y3, LeO (spec_l8Put.l0 k y0 y1 y2 y3) (spec_l8Put.l0 (k + 1) y0 y1 y2 y3)
  | 0 => fun _ _ _ _ r h => by simp [spec_l8Put.l0] at h
  | k + 1 => by
    have ih0 := spec_l8Put.mono_l k
    intro y0 y1 y2 y3
    unfold spec_l8Put.l0
    exact LM
theorem spec_l8Put.mono_b : ∀ a0 a1 a2 a3 a4 a5 a6 a7 k, LeO (spec_l8Put.b k a0 a1 a2 a3 a4 a5 a6 a7) (spec_l8Put.b (k + 1) a0 a1 a2 a3 a4 a5 a6 a7) := by
  intro a0 a1 a2 a3 a4 a5 a6 a7 k
  have m0_ := @spec_SumOf.mono
  unfold spec_l8Put.b
  exact LM
theorem spec_l8Put.mono : ∀ a0 a1 a2 a3 a4 a5 a6 a7 k, LeO (spec_l8Put.f k a0 a1 a2 a3 a4 a5 a6 a7) (spec_l8Put.f (k + 1) a0 a1 a2 a3 a4 a5 a6 a7) := by
  intro a0 a1 a2 a3 a4 a5 a6 a7 k
  have m0_ := @spec_l8Put.mono_b
  have ih0 := spec_l8Put.mono_l k
  unfold spec_l8Put.f
  exact LM
theorem spec_l8Put.has {k : Nat} {m0 m1 m2 : Int} {l3 : List S48} {hv : Int} {l : List Int} {i : Int} {b : List Int} {r : Int × List Int} (h : spec_l8Put.f k m0 m1 m2 l3 hv l i b = some r) : ∃ t, spec_l8Put.b k m0 m1 m2 l3 hv l i b = some t := by
  obtain ⟨t, A, _⟩ := bE h
  exact ⟨t, A.out⟩
set_option maxHeartbeats 4000000 in
set_option maxRecDepth 100000 in
theorem spec_l8Put.calls (k : Nat) (g : Nat) (A : Option Addr) (c : Nat) (hv : Int) (l : List Int) (m0 m1 m2 : Int) (A3 : Option Addr) (c3 : Nat) (l3 : List S48) (i : Int) (Ab : Option Addr) (cb : Nat) (lb : List Int) (r0 : Bool) (r1 : Int) (r2 : List Int) (ok : Nat → Prop) (w0 w : World) (hB : Below w0.heap.size w0 w) (hg : w0.heap.size ≤ g)
  (hG : w.heap[g]? = some (.cells #[.int .i64 hv, .slice A l.length c] 31 (0, 0))) (hD : Kd.R (Kd.int .u8) 5 w w0.heap.size ok (.slice A l.length c) l) (hr3 : Kd.C k48 w A3 l3.length l3) (hr : ∀ W_, Kept w W_ (fun k => k = g ∨ some k = (Value.slice A l.length c).ownBlock) → Kd.C (Kd.int .u8) W_ Ab lb.length lb) (hc : lb.length ≤ cb) (hb : spec_l8Put.b k m0 m1 m2 l3 hv l i lb = some r0) (h : spec_l8Put.f k m0 m1 m2 l3 hv l i lb = some (r1, r2)) :
  Calls Try.prog 93 #[.agg #[.int .i64 m0, .int .i64 m1, .int .i64 m2, .slice A3 l3.length c3], .pointer (some ⟨g, 0, none⟩), .int .i64 i, .slice Ab lb.length cb] w fun e w' => e = .returned (.bool r0) ∧ r2.length = l.length ∧ w'.heap[g]? = some (.cells #[.int .i64 r1, .slice A r2.length c] 31 (0, 0)) ∧ Kd.R (Kd.int .u8) 5 w' w0.heap.size ok (.slice A r2.length c) r2 ∧ Below w0.heap.size w0 w' ∧ Kept w w' (fun k => k = g ∨ some k = (Value.slice A l.length c).ownBlock) := by
 have hu31 := Try.underlying31
 have hu28 := Try.underlying28
 have hu48 := Try.underlying48
 unfold spec_l8Put.f at h
 rw [hb] at h
 simp only [Option.bind_some] at h
 have HB := aM hB
 have HE := aM (Below.refl w.heap.size w)
 have HW := aM hg
 have HG := aM hG
 have HD := aM hD
 have HR := aM hr
 have HR3 := aM hr3
 have HC := aM hc
 have HK := aM (Kept.refl w (fun k => k = g ∨ some k = (Value.slice A l.length c).ownBlock))
 have H := aM h
 unfold spec_l8Put.b at hb
 have Hb := aM hb
 clear hB hg hG hD hr hr3 hc h hb
 go_enter Try.func93, Try.ntmps93
 go_upto_region 1 with (first | ((with_reducible refine gate_dst (N := 4) rfl ?_); refine gBx 4 #[.int .i64 m0, .int .i64 m1, .int .i64 m2, .slice A3 l3.length c3] 28 ?_; intro g4 hg w2 hbox hb; have B4 := aM hbox; have N4 := aM (show g ≠ g4 from fun e => by have := (Array.getElem?_eq_some_iff.1 HG.out).1; omega); have K4 := aM (show w.heap.size ≤ g4 by rw [hg]; exact Nat.le_refl _); replace HB := aM (below_step HB.out hb); replace HE := aM (below_step HE.out hb); replace HG := aM (blk_below HG.out hb); replace HD := aM (Kd.R_below HD.out hb); replace HK := aM (HK.out.below hb); clear hb hbox hg))
 (try (simp only [Act.put, List.setIfInBounds_toArray, List.set_cons_zero, List.set_cons_succ]))
 go_cut [41] (fun v41 wc => v41 = .bool (!r0) ∧ Aside0 (wc.heap[g]? = some (.cells #[.int .i64 hv, .slice A l.length c] 31 (0, 0))) ∧ Aside0 (wc.heap[g4]? = some (.cells #[.int .i64 m0, .int .i64 m1, .int .i64 m2, .slice A3 l3.length c3] 28 (0, 0))) ∧ Aside0 (Kd.R (Kd.int .u8) 5 wc w0.heap.size ok (.slice A l.length c) l) ∧ Aside0 (Kept w wc (fun k => k = g ∨ some k = (Value.slice A l.length c).ownBlock)) ∧ Aside0 (Below w.heap.size w wc) ∧ Aside0 (Below w0.heap.size w0 wc))
 case first =>
  clear H
  have H := Hb.out
  clear Hb
  obtain ⟨t, A1, H⟩ := bE H
  cases t with
  | false =>
   replace H := ifF H
   obtain rfl := Option.some.inj H
   clear H
   replace HB := aM (below_step HB.out (bd1 rfl))
   replace HE := aM (below_step HE.out (bd1 rfl))
   replace HG := aM (blk_below HG.out (bd1 rfl))
   replace B4 := aM (blk_below B4.out (bd1 rfl))
   replace HD := aM (Kd.R_below HD.out (bd1 rfl))
   replace HK := aM (HK.out.below (bd1 rfl))
   refine start_ (n := 30) (S := fun w' => w'.cell? ⟨g, 0, none⟩ = some (.int .i64 hv) ∧ w'.cell? ⟨g, 1, none⟩ = some (.slice A l.length c) ∧ w'.cell? ⟨g4, 0, none⟩ = some (.int .i64 m0) ∧ w'.cell? ⟨g4, 1, none⟩ = some (.int .i64 m1) ∧ w'.cell? ⟨g4, 2, none⟩ = some (.int .i64 m2) ∧ w'.cell? ⟨g4, 3, none⟩ = some (.slice A3 l3.length c3)) (ds := []) (Array.replicate 30 false) (by kernel_rfl) rfl rfl ⟨(blk_cell HG.out 0).trans rfl, (blk_cell HG.out 1).trans rfl, (blk_cell B4.out 0).trans rfl, (blk_cell B4.out 1).trans rfl, (blk_cell B4.out 2).trans rfl, (blk_cell B4.out 3).trans rfl⟩ (fun hHeld => ?_)
   generalize hw_ : World.drew _ = w4 at HB HE HG B4 HD HK hHeld ⊢
   clear hw_
   refine pP 0 (some 12) ?_
   refine pP 1 (some 13) ?_
   refine pT 2 (some 14) ?_
   refine pP 3 (some 15) ?_
   refine pP 4 (some 16) ?_
   refine pO 5 (some 17) (fun K hK => ?_)
   refine gG Try.func80 #[.int .i64 i, .int .i64 0, .int .i64 (wrap64 ((l3.length : Int) - 1))] ?_
   with_reducible refine (spec_l1In.calls i 0 (wrap64 ((l3.length : Int) - 1)) false _ A1.out).mono ?_
   rintro e w5 ⟨rfl, hd⟩
   refine ⟨_, rfl, ?_⟩
   have hb := hd.below
   clear hd
   replace HB := aM (below_step HB.out hb)
   replace HE := aM (below_step HE.out hb)
   replace HG := aM (blk_below HG.out hb)
   replace B4 := aM (blk_below B4.out hb)
   replace HD := aM (Kd.R_below HD.out hb)
   replace HK := aM (HK.out.below hb)
   clear hb
   refine hK.out _ _ ⟨(blk_cell HG.out 0).trans rfl, (blk_cell HG.out 1).trans rfl, (blk_cell B4.out 0).trans rfl, (blk_cell B4.out 1).trans rfl, (blk_cell B4.out 2).trans rfl, (blk_cell B4.out 3).trans rfl⟩ (fun hHeld => ?_)
   clear hK K
   refine nR ?_
   refine pP 6 (some 18) ?_
   refine pP 7 (some 19) ?_
   refine pX 8 (some 20) ?_
   refine pX 9 (some 21) ?_
   refine pX 10 (some 22) ?_
   refine pX 11 (some 23) ?_
   refine pX 12 (some 24) ?_
   refine pX 13 (some 25) ?_
   refine pP 14 (some 26) ?_
   refine pP 15 (some 27) ?_
   refine pX 16 (some 28) ?_
   refine pX 17 (some 29) ?_
   refine pX 18 (some 30) ?_
   refine pX 19 (some 31) ?_
   refine pX 20 (some 32) ?_
   refine pX 21 (some 33) ?_
   refine pX 22 (some 34) ?_
   refine pX 23 (some 35) ?_
   refine pP 24 (some 36) ?_
   refine pP 25 (some 37) ?_
   refine pX 26 (some 38) ?_
   refine pX 27 (some 39) ?_
   refine pX 28 (some 40) ?_
   refine pP 29 (some 41) ?_
   refine done_ (by kernel_rfl) ?_
   try go_wp2
   go_meet
   case rel => exact ⟨rfl, HG, B4, HD, HK, HE, HB⟩
  | true =>
   replace H := ifT H
   obtain ⟨s, A2, H⟩ := bE H
   cases s with
   | true =>
    replace H := ifT H
    obtain rfl := Option.some.inj H
    clear H
    replace HB := aM (below_step HB.out (bd1 rfl))
    replace HE := aM (below_step HE.out (bd1 rfl))
    replace HG := aM (blk_below HG.out (bd1 rfl))
    replace B4 := aM (blk_below B4.out (bd1 rfl))
    replace HD := aM (Kd.R_below HD.out (bd1 rfl))
    replace HK := aM (HK.out.below (bd1 rfl))
    refine start_ (n := 30) (S := fun w' => w'.cell? ⟨g, 0, none⟩ = some (.int .i64 hv) ∧ w'.cell? ⟨g, 1, none⟩ = some (.slice A l.length c) ∧ w'.cell? ⟨g4, 0, none⟩ = some (.int .i64 m0) ∧ w'.cell? ⟨g4, 1, none⟩ = some (.int .i64 m1) ∧ w'.cell? ⟨g4, 2, none⟩ = some (.int .i64 m2) ∧ w'.cell? ⟨g4, 3, none⟩ = some (.slice A3 l3.length c3)) (ds := []) (Array.replicate 30 false) (by kernel_rfl) rfl rfl ⟨(blk_cell HG.out 0).trans rfl, (blk_cell HG.out 1).trans rfl, (blk_cell B4.out 0).trans rfl, (blk_cell B4.out 1).trans rfl, (blk_cell B4.out 2).trans rfl, (blk_cell B4.out 3).trans rfl⟩ (fun hHeld => ?_)
    generalize hw_ : World.drew _ = w4 at HB HE HG B4 HD HK hHeld ⊢
    clear hw_
    refine pP 0 (some 12) ?_
    refine pP 1 (some 13) ?_
    refine pT 2 (some 14) ?_
    refine pP 3 (some 15) ?_
    refine pP 4 (some 16) ?_
    refine pO 5 (some 17) (fun K hK => ?_)
    refine gG Try.func80 #[.int .i64 i, .int .i64 0, .int .i64 (wrap64 ((l3.length : Int) - 1))] ?_
    with_reducible refine (spec_l1In.calls i 0 (wrap64 ((l3.length : Int) - 1)) true _ A1.out).mono ?_
    rintro e w5 ⟨rfl, hd⟩
    refine ⟨_, rfl, ?_⟩
    have hb := hd.below
    clear hd
    replace HB := aM (below_step HB.out hb)
    replace HE := aM (below_step HE.out hb)
    replace HG := aM (blk_below HG.out hb)
    replace B4 := aM (blk_below B4.out hb)
    replace HD := aM (Kd.R_below HD.out hb)
    replace HK := aM (HK.out.below hb)
    clear hb
    refine hK.out _ _ ⟨(blk_cell HG.out 0).trans rfl, (blk_cell HG.out 1).trans rfl, (blk_cell B4.out 0).trans rfl, (blk_cell B4.out 1).trans rfl, (blk_cell B4.out 2).trans rfl, (blk_cell B4.out 3).trans rfl⟩ (fun hHeld => ?_)
    clear hK K
    refine nR ?_
    refine pP 6 (some 18) ?_
    refine pP 7 (some 19) ?_
    refine pP 8 (some 20) ?_
    refine pP 9 (some 21) ?_
    refine pP 10 (some 22) ?_
    refine pP 12 (some 24) ?_
    refine pT 11 (some 23) ?_
    refine pO 13 (some 25) (fun K hK => ?_)
    refine gG Try.func98 #[.int .i64 hv, .int .i64 i] ?_
    with_reducible refine (spec_InSet.calls hv i true _ A2.out).mono ?_
    rintro e w6 ⟨rfl, hd⟩
    refine ⟨_, rfl, ?_⟩
    have hb := hd.below
    clear hd
    replace HB := aM (below_step HB.out hb)
    replace HE := aM (below_step HE.out hb)
    replace HG := aM (blk_below HG.out hb)
    replace B4 := aM (blk_below B4.out hb)
    replace HD := aM (Kd.R_below HD.out hb)
    replace HK := aM (HK.out.below hb)
    clear hb
    refine hK.out _ _ ⟨(blk_cell HG.out 0).trans rfl, (blk_cell HG.out 1).trans rfl, (blk_cell B4.out 0).trans rfl, (blk_cell B4.out 1).trans rfl, (blk_cell B4.out 2).trans rfl, (blk_cell B4.out 3).trans rfl⟩ (fun hHeld => ?_)
    clear hK K
    refine nR ?_
    refine pP 14 (some 26) ?_
    refine pP 15 (some 27) ?_
    refine pX 16 (some 28) ?_
    refine pX 17 (some 29) ?_
    refine pX 18 (some 30) ?_
    refine pX 19 (some 31) ?_
    refine pX 20 (some 32) ?_
    refine pX 21 (some 33) ?_
    refine pX 22 (some 34) ?_
    refine pX 23 (some 35) ?_
    refine pP 24 (some 36) ?_
    refine pP 25 (some 37) ?_
    refine pX 26 (some 38) ?_
    refine pX 27 (some 39) ?_
    refine pX 28 (some 40) ?_
    refine pP 29 (some 41) ?_
    refine done_ (by kernel_rfl) ?_
    try go_wp2
    go_meet
    case rel => exact ⟨rfl, HG, B4, HD, HK, HE, HB⟩
   | false =>
    replace H := ifF H
    obtain ⟨⟨u1, u2⟩, A3_, H⟩ := bE H
    dsimp only at A3_ H
    obtain ⟨q3, H⟩ := ifN H
    obtain ⟨q4, H⟩ := ifN H
    by_cases c5 : (!(u1 == ((rd_T48 l3 i).f0)) || (!(u2 == ((rd_T48 l3 i).f1)))) = true
    ·rw [if_pos c5] at H
     obtain rfl := Option.some.inj H
     clear H
     have p5 : 0 ≤ (i : Int) := q3
     have q5 : i < (l3.length : Int) := q4
     obtain ⟨ad, e3, hx0, hx1⟩ := at_T48 HR3.out i p5 q5
     cases e3
     replace p5 := eq_true p5
     replace q5 := eq_true q5
     replace HB := aM (below_step HB.out (bd1 rfl))
     replace HE := aM (below_step HE.out (bd1 rfl))
     replace HG := aM (blk_below HG.out (bd1 rfl))
     replace B4 := aM (blk_below B4.out (bd1 rfl))
     replace HD := aM (Kd.R_below HD.out (bd1 rfl))
     replace HK := aM (HK.out.below (bd1 rfl))
     refine start_ (n := 30) (S := fun w' => w'.cell? ⟨g, 0, none⟩ = some (.int .i64 hv) ∧ w'.cell? ⟨g, 1, none⟩ = some (.slice A l.length c) ∧ w'.cell? ⟨g4, 0, none⟩ = some (.int .i64 m0) ∧ w'.cell? ⟨g4, 1, none⟩ = some (.int .i64 m1) ∧ w'.cell? ⟨g4, 2, none⟩ = some (.int .i64 m2) ∧ w'.cell? ⟨g4, 3, none⟩ = some (.slice (some ad) l3.length c3) ∧ w'.cell? (ad.add ((i).toNat * 2)) = some (.int .i64 ((rd_T48 l3 i).f0)) ∧ w'.cell? ⟨(ad.add ((i).toNat * 2)).block, (ad.add ((i).toNat * 2)).off + 1, none⟩ = some (.int .i64 ((rd_T48 l3 i).f1))) (ds := []) (Array.replicate 30 false) (by kernel_rfl) rfl rfl ⟨(blk_cell HG.out 0).trans rfl, (blk_cell HG.out 1).trans rfl, (blk_cell B4.out 0).trans rfl, (blk_cell B4.out 1).trans rfl, (blk_cell B4.out 2).trans rfl, (blk_cell B4.out 3).trans rfl, ((HE.out.cell (World.block_lt_of_cell? w _ hx0)).trans hx0), ((HE.out.cell (World.block_lt_of_cell? w _ hx1)).trans hx1)⟩ (fun hHeld => ?_)
     generalize hw_ : World.drew _ = w4 at HB HE HG B4 HD HK hHeld ⊢
     clear hw_
     refine pP 0 (some 12) ?_
     refine pP 1 (some 13) ?_
     refine pT 2 (some 14) ?_
     refine pP 3 (some 15) ?_
     refine pP 4 (some 16) ?_
     refine pO 5 (some 17) (fun K hK => ?_)
     refine gG Try.func80 #[.int .i64 i, .int .i64 0, .int .i64 (wrap64 ((l3.length : Int) - 1))] ?_
     with_reducible refine (spec_l1In.calls i 0 (wrap64 ((l3.length : Int) - 1)) true _ A1.out).mono ?_
     rintro e w5 ⟨rfl, hd⟩
     refine ⟨_, rfl, ?_⟩
     have hb := hd.below
     clear hd
     replace HB := aM (below_step HB.out hb)
     replace HE := aM (below_step HE.out hb)
     replace HG := aM (blk_below HG.out hb)
     replace B4 := aM (blk_below B4.out hb)
     replace HD := aM (Kd.R_below HD.out hb)
     replace HK := aM (HK.out.below hb)
     clear hb
     refine hK.out _ _ ⟨(blk_cell HG.out 0).trans rfl, (blk_cell HG.out 1).trans rfl, (blk_cell B4.out 0).trans rfl, (blk_cell B4.out 1).trans rfl, (blk_cell B4.out 2).trans rfl, (blk_cell B4.out 3).trans rfl, ((HE.out.cell (World.block_lt_of_cell? w _ hx0)).trans hx0), ((HE.out.cell (World.block_lt_of_cell? w _ hx1)).trans hx1)⟩ (fun hHeld => ?_)
     clear hK K
     refine nR ?_
     refine pP 6 (some 18) ?_
     refine pP 7 (some 19) ?_
     refine pP 8 (some 20) ?_
     refine pP 9 (some 21) ?_
     refine pP 10 (some 22) ?_
     refine pP 12 (some 24) ?_
     refine pT 11 (some 23) ?_
     refine pO 13 (some 25) (fun K hK => ?_)
     refine gG Try.func98 #[.int .i64 hv, .int .i64 i] ?_
     with_reducible refine (spec_InSet.calls hv i false _ A2.out).mono ?_
     rintro e w6 ⟨rfl, hd⟩
     refine ⟨_, rfl, ?_⟩
     have hb := hd.below
     clear hd
     replace HB := aM (below_step HB.out hb)
     replace HE := aM (below_step HE.out hb)
     replace HG := aM (blk_below HG.out hb)
     replace B4 := aM (blk_below B4.out hb)
     replace HD := aM (Kd.R_below HD.out hb)
     replace HK := aM (HK.out.below hb)
     clear hb
     refine hK.out _ _ ⟨(blk_cell HG.out 0).trans rfl, (blk_cell HG.out 1).trans rfl, (blk_cell B4.out 0).trans rfl, (blk_cell B4.out 1).trans rfl, (blk_cell B4.out 2).trans rfl, (blk_cell B4.out 3).trans rfl, ((HE.out.cell (World.block_lt_of_cell? w _ hx0)).trans hx0), ((HE.out.cell (World.block_lt_of_cell? w _ hx1)).trans hx1)⟩ (fun hHeld => ?_)
     clear hK K
     refine nR ?_
     refine pP 14 (some 26) ?_
     refine pP 15 (some 27) ?_
     refine pP 16 (some 28) ?_
     refine pP 18 (some 30) ?_
     refine pP 20 (some 32) ?_
     refine pT 19 (some 31) ?_
     refine pP 21 (some 33) ?_
     refine pT 22 (some 34) ?_
     refine pO 17 (some 29) (fun K hK => ?_)
     refine gG Try.func77 #[.slice Ab lb.length cb] ?_
     with_reducible refine (spec_SumOf.calls k _ _ lb u1 u2 _ ((HR.out _ HK.out)) HC.out A3_.out).mono ?_
     rintro e w7 ⟨rfl, hb⟩
     refine ⟨_, rfl, ?_⟩
     replace HB := aM (below_step HB.out hb)
     replace HE := aM (below_step HE.out hb)
     replace HG := aM (blk_below HG.out hb)
     replace B4 := aM (blk_below B4.out hb)
     replace HD := aM (Kd.R_below HD.out hb)
     replace HK := aM (HK.out.below hb)
     clear hb
     refine hK.out _ _ ⟨(blk_cell HG.out 0).trans rfl, (blk_cell HG.out 1).trans rfl, (blk_cell B4.out 0).trans rfl, (blk_cell B4.out 1).trans rfl, (blk_cell B4.out 2).trans rfl, (blk_cell B4.out 3).trans rfl, ((HE.out.cell (World.block_lt_of_cell? w _ hx0)).trans hx0), ((HE.out.cell (World.block_lt_of_cell? w _ hx1)).trans hx1)⟩ (fun hHeld => ?_)
     clear hK K
     refine nR ?_
     refine pP 23 (some 35) ?_
     refine pP 24 (some 36) ?_
     refine pP 25 (some 37) ?_
     refine pX 26 (some 38) ?_
     refine pX 27 (some 39) ?_
     refine pX 28 (some 40) ?_
     refine pP 29 (some 41) ?_
     refine done_ (by kernel_rfl) ?_
     try go_wp2
     go_meet
     case rel => exact ⟨rfl, HG, B4, HD, HK, HE, HB⟩
    ·rw [if_neg c5] at H
     have c5b : (!(u1 == ((rd_T48 l3 i).f0)) || (!(u2 == ((rd_T48 l3 i).f1)))) = false := by simpa using c5
     clear c5
     by_cases c6 : (lb.length : Int) > 6
     ·rw [if_pos c6] at H
      obtain rfl := Option.some.inj H
      clear H
      have c6b : decide ((lb.length : Int) > 6) = true := decide_eq_true c6
      have c6c : decide (6 < (lb.length : Int)) = true := decide_eq_true c6
      have c6d : decide (6 < lb.length) = true := decide_eq_true (by omega)
      clear c6
      have p5 : 0 ≤ (i : Int) := q3
      have q5 : i < (l3.length : Int) := q4
      obtain ⟨ad, e3, hx0, hx1⟩ := at_T48 HR3.out i p5 q5
      cases e3
      replace p5 := eq_true p5
      replace q5 := eq_true q5
      replace HB := aM (below_step HB.out (bd1 rfl))
      replace HE := aM (below_step HE.out (bd1 rfl))
      replace HG := aM (blk_below HG.out (bd1 rfl))
      replace B4 := aM (blk_below B4.out (bd1 rfl))
      replace HD := aM (Kd.R_below HD.out (bd1 rfl))
      replace HK := aM (HK.out.below (bd1 rfl))
      refine start_ (n := 30) (S := fun w' => w'.cell? ⟨g, 0, none⟩ = some (.int .i64 hv) ∧ w'.cell? ⟨g, 1, none⟩ = some (.slice A l.length c) ∧ w'.cell? ⟨g4, 0, none⟩ = some (.int .i64 m0) ∧ w'.cell? ⟨g4, 1, none⟩ = some (.int .i64 m1) ∧ w'.cell? ⟨g4, 2, none⟩ = some (.int .i64 m2) ∧ w'.cell? ⟨g4, 3, none⟩ = some (.slice (some ad) l3.length c3) ∧ w'.cell? (ad.add ((i).toNat * 2)) = some (.int .i64 ((rd_T48 l3 i).f0)) ∧ w'.cell? ⟨(ad.add ((i).toNat * 2)).block, (ad.add ((i).toNat * 2)).off + 1, none⟩ = some (.int .i64 ((rd_T48 l3 i).f1))) (ds := []) (Array.replicate 30 false) (by kernel_rfl) rfl rfl ⟨(blk_cell HG.out 0).trans rfl, (blk_cell HG.out 1).trans rfl, (blk_cell B4.out 0).trans rfl, (blk_cell B4.out 1).trans rfl, (blk_cell B4.out 2).trans rfl, (blk_cell B4.out 3).trans rfl, ((HE.out.cell (World.block_lt_of_cell? w _ hx0)).trans hx0), ((HE.out.cell (World.block_lt_of_cell? w _ hx1)).trans hx1)⟩ (fun hHeld => ?_)
      generalize hw_ : World.drew _ = w4 at HB HE HG B4 HD HK hHeld ⊢
      clear hw_
      refine pP 0 (some 12) ?_
      refine pP 1 (some 13) ?_
      refine pT 2 (some 14) ?_
      refine pP 3 (some 15) ?_
      refine pP 4 (some 16) ?_
      refine pO 5 (some 17) (fun K hK => ?_)
      refine gG Try.func80 #[.int .i64 i, .int .i64 0, .int .i64 (wrap64 ((l3.length : Int) - 1))] ?_
      with_reducible refine (spec_l1In.calls i 0 (wrap64 ((l3.length : Int) - 1)) true _ A1.out).mono ?_
      rintro e w5 ⟨rfl, hd⟩
      refine ⟨_, rfl, ?_⟩
      have hb := hd.below
      clear hd
      replace HB := aM (below_step HB.out hb)
      replace HE := aM (below_step HE.out hb)
      replace HG := aM (blk_below HG.out hb)
      replace B4 := aM (blk_below B4.out hb)
      replace HD := aM (Kd.R_below HD.out hb)
      replace HK := aM (HK.out.below hb)
      clear hb
      refine hK.out _ _ ⟨(blk_cell HG.out 0).trans rfl, (blk_cell HG.out 1).trans rfl, (blk_cell B4.out 0).trans rfl, (blk_cell B4.out 1).trans rfl, (blk_cell B4.out 2).trans rfl, (blk_cell B4.out 3).trans rfl, ((HE.out.cell (World.block_lt_of_cell? w _ hx0)).trans hx0), ((HE.out.cell (World.block_lt_of_cell? w _ hx1)).trans hx1)⟩ (fun hHeld => ?_)
      clear hK K
      refine nR ?_
      refine pP 6 (some 18) ?_
      refine pP 7 (some 19) ?_
      refine pP 8 (some 20) ?_
      refine pP 9 (some 21) ?_
      refine pP 10 (some 22) ?_
      refine pP 12 (some 24) ?_
      refine pT 11 (some 23) ?_
      refine pO 13 (some 25) (fun K hK => ?_)
      refine gG Try.func98 #[.int .i64 hv, .int .i64 i] ?_
      with_reducible refine (spec_InSet.calls hv i false _ A2.out).mono ?_
      rintro e w6 ⟨rfl, hd⟩
      refine ⟨_, rfl, ?_⟩
      have hb := hd.below
      clear hd
      replace HB := aM (below_step HB.out hb)
      replace HE := aM (below_step HE.out hb)
      replace HG := aM (blk_below HG.out hb)
      replace B4 := aM (blk_below B4.out hb)
      replace HD := aM (Kd.R_below HD.out hb)
      replace HK := aM (HK.out.below hb)
      clear hb
      refine hK.out _ _ ⟨(blk_cell HG.out 0).trans rfl, (blk_cell HG.out 1).trans rfl, (blk_cell B4.out 0).trans rfl, (blk_cell B4.out 1).trans rfl, (blk_cell B4.out 2).trans rfl, (blk_cell B4.out 3).trans rfl, ((HE.out.cell (World.block_lt_of_cell? w _ hx0)).trans hx0), ((HE.out.cell (World.block_lt_of_cell? w _ hx1)).trans hx1)⟩ (fun hHeld => ?_)
      clear hK K
      refine nR ?_
      refine pP 14 (some 26) ?_
      refine pP 15 (some 27) ?_
      refine pP 16 (some 28) ?_
      refine pP 18 (some 30) ?_
      refine pP 20 (some 32) ?_
      refine pT 19 (some 31) ?_
      refine pP 21 (some 33) ?_
      refine pT 22 (some 34) ?_
      refine pO 17 (some 29) (fun K hK => ?_)
      refine gG Try.func77 #[.slice Ab lb.length cb] ?_
      with_reducible refine (spec_SumOf.calls k _ _ lb u1 u2 _ ((HR.out _ HK.out)) HC.out A3_.out).mono ?_
      rintro e w7 ⟨rfl, hb⟩
      refine ⟨_, rfl, ?_⟩
      replace HB := aM (below_step HB.out hb)
      replace HE := aM (below_step HE.out hb)
      replace HG := aM (blk_below HG.out hb)
      replace B4 := aM (blk_below B4.out hb)
      replace HD := aM (Kd.R_below HD.out hb)
      replace HK := aM (HK.out.below hb)
      clear hb
      refine hK.out _ _ ⟨(blk_cell HG.out 0).trans rfl, (blk_cell HG.out 1).trans rfl, (blk_cell B4.out 0).trans rfl, (blk_cell B4.out 1).trans rfl, (blk_cell B4.out 2).trans rfl, (blk_cell B4.out 3).trans rfl, ((HE.out.cell (World.block_lt_of_cell? w _ hx0)).trans hx0), ((HE.out.cell (World.block_lt_of_cell? w _ hx1)).trans hx1)⟩ (fun hHeld => ?_)
      clear hK K
      refine nR ?_
      refine pP 23 (some 35) ?_
      refine pP 24 (some 36) ?_
      refine pP 25 (some 37) ?_
      refine pP 26 (some 38) ?_
      refine pP 27 (some 39) ?_
      refine pP 28 (some 40) ?_
      refine pP 29 (some 41) ?_
      refine done_ (by kernel_rfl) ?_
      try go_wp2
      go_meet
      case rel => exact ⟨rfl, HG, B4, HD, HK, HE, HB⟩
     ·rw [if_neg c6] at H
      obtain rfl := Option.some.inj H
      clear H
      have c6b : decide ((lb.length : Int) > 6) = false := decide_eq_false c6
      have c6c : decide (6 < (lb.length : Int)) = false := decide_eq_false c6
      have c6d : decide (6 < lb.length) = false := decide_eq_false (by omega)
      clear c6
      have p5 : 0 ≤ (i : Int) := q3
      have q5 : i < (l3.length : Int) := q4
      obtain ⟨ad, e3, hx0, hx1⟩ := at_T48 HR3.out i p5 q5
      cases e3
      replace p5 := eq_true p5
      replace q5 := eq_true q5
      replace HB := aM (below_step HB.out (bd1 rfl))
      replace HE := aM (below_step HE.out (bd1 rfl))
      replace HG := aM (blk_below HG.out (bd1 rfl))
      replace B4 := aM (blk_below B4.out (bd1 rfl))
      replace HD := aM (Kd.R_below HD.out (bd1 rfl))
      replace HK := aM (HK.out.below (bd1 rfl))
      refine start_ (n := 30) (S := fun w' => w'.cell? ⟨g, 0, none⟩ = some (.int .i64 hv) ∧ w'.cell? ⟨g, 1, none⟩ = some (.slice A l.length c) ∧ w'.cell? ⟨g4, 0, none⟩ = some (.int .i64 m0) ∧ w'.cell? ⟨g4, 1, none⟩ = some (.int .i64 m1) ∧ w'.cell? ⟨g4, 2, none⟩ = some (.int .i64 m2) ∧ w'.cell? ⟨g4, 3, none⟩ = some (.slice (some ad) l3.length c3) ∧ w'.cell? (ad.add ((i).toNat * 2)) = some (.int .i64 ((rd_T48 l3 i).f0)) ∧ w'.cell? ⟨(ad.add ((i).toNat * 2)).block, (ad.add ((i).toNat * 2)).off + 1, none⟩ = some (.int .i64 ((rd_T48 l3 i).f1))) (ds := []) (Array.replicate 30 false) (by kernel_rfl) rfl rfl ⟨(blk_cell HG.out 0).trans rfl, (blk_cell HG.out 1).trans rfl, (blk_cell B4.out 0).trans rfl, (blk_cell B4.out 1).trans rfl, (blk_cell B4.out 2).trans rfl, (blk_cell B4.out 3).trans rfl, ((HE.out.cell (World.block_lt_of_cell? w _ hx0)).trans hx0), ((HE.out.cell (World.block_lt_of_cell? w _ hx1)).trans hx1)⟩ (fun hHeld => ?_)
      generalize hw_ : World.drew _ = w4 at HB HE HG B4 HD HK hHeld ⊢
      clear hw_
      refine pP 0 (some 12) ?_
      refine pP 1 (some 13) ?_
      refine pT 2 (some 14) ?_
      refine pP 3 (some 15) ?_
      refine pP 4 (some 16) ?_
      refine pO 5 (some 17) (fun K hK => ?_)
      refine gG Try.func80 #[.int .i64 i, .int .i64 0, .int .i64 (wrap64 ((l3.length : Int) - 1))] ?_
      with_reducible refine (spec_l1In.calls i 0 (wrap64 ((l3.length : Int) - 1)) true _ A1.out).mono ?_
      rintro e w5 ⟨rfl, hd⟩
      refine ⟨_, rfl, ?_⟩
      have hb := hd.below
      clear hd
      replace HB := aM (below_step HB.out hb)
      replace HE := aM (below_step HE.out hb)
      replace HG := aM (blk_below HG.out hb)
      replace B4 := aM (blk_below B4.out hb)
      replace HD := aM (Kd.R_below HD.out hb)
      replace HK := aM (HK.out.below hb)
      clear hb
      refine hK.out _ _ ⟨(blk_cell HG.out 0).trans rfl, (blk_cell HG.out 1).trans rfl, (blk_cell B4.out 0).trans rfl, (blk_cell B4.out 1).trans rfl, (blk_cell B4.out 2).trans rfl, (blk_cell B4.out 3).trans rfl, ((HE.out.cell (World.block_lt_of_cell? w _ hx0)).trans hx0), ((HE.out.cell (World.block_lt_of_cell? w _ hx1)).trans hx1)⟩ (fun hHeld => ?_)
      clear hK K
      refine nR ?_
      refine pP 6 (some 18) ?_
      refine pP 7 (some 19) ?_
      refine pP 8 (some 20) ?_
      refine pP 9 (some 21) ?_
      refine pP 10 (some 22) ?_
      refine pP 12 (some 24) ?_
      refine pT 11 (some 23) ?_
      refine pO 13 (some 25) (fun K hK => ?_)
      refine gG Try.func98 #[.int .i64 hv, .int .i64 i] ?_
      with_reducible refine (spec_InSet.calls hv i false _ A2.out).mono ?_
      rintro e w6 ⟨rfl, hd⟩
      refine ⟨_, rfl, ?_⟩
      have hb := hd.below
      clear hd
      replace HB := aM (below_step HB.out hb)
      replace HE := aM (below_step HE.out hb)
      replace HG := aM (blk_below HG.out hb)
      replace B4 := aM (blk_below B4.out hb)
      replace HD := aM (Kd.R_below HD.out hb)
      replace HK := aM (HK.out.below hb)
      clear hb
      refine hK.out _ _ ⟨(blk_cell HG.out 0).trans rfl, (blk_cell HG.out 1).trans rfl, (blk_cell B4.out 0).trans rfl, (blk_cell B4.out 1).trans rfl, (blk_cell B4.out 2).trans rfl, (blk_cell B4.out 3).trans rfl, ((HE.out.cell (World.block_lt_of_cell? w _ hx0)).trans hx0), ((HE.out.cell (World.block_lt_of_cell? w _ hx1)).trans hx1)⟩ (fun hHeld => ?_)
      clear hK K
      refine nR ?_
      refine pP 14 (some 26) ?_
      refine pP 15 (some 27) ?_
      refine pP 16 (some 28) ?_
      refine pP 18 (some 30) ?_
      refine pP 20 (some 32) ?_
      refine pT 19 (some 31) ?_
      refine pP 21 (some 33) ?_
      refine pT 22 (some 34) ?_
      refine pO 17 (some 29) (fun K hK => ?_)
      refine gG Try.func77 #[.slice Ab lb.length cb] ?_
      with_reducible refine (spec_SumOf.calls k _ _ lb u1 u2 _ ((HR.out _ HK.out)) HC.out A3_.out).mono ?_
      rintro e w7 ⟨rfl, hb⟩
      refine ⟨_, rfl, ?_⟩
      replace HB := aM (below_step HB.out hb)
      replace HE := aM (below_step HE.out hb)
      replace HG := aM (blk_below HG.out hb)
      replace B4 := aM (blk_below B4.out hb)
      replace HD := aM (Kd.R_below HD.out hb)
      replace HK := aM (HK.out.below hb)
      clear hb
      refine hK.out _ _ ⟨(blk_cell HG.out 0).trans rfl, (blk_cell HG.out 1).trans rfl, (blk_cell B4.out 0).trans rfl, (blk_cell B4.out 1).trans rfl, (blk_cell B4.out 2).trans rfl, (blk_cell B4.out 3).trans rfl, ((HE.out.cell (World.block_lt_of_cell? w _ hx0)).trans hx0), ((HE.out.cell (World.block_lt_of_cell? w _ hx1)).trans hx1)⟩ (fun hHeld => ?_)
      clear hK K
      refine nR ?_
      refine pP 23 (some 35) ?_
      refine pP 24 (some 36) ?_
      refine pP 25 (some 37) ?_
      refine pP 26 (some 38) ?_
      refine pP 27 (some 39) ?_
      refine pP 28 (some 40) ?_
      refine pP 29 (some 41) ?_
      refine done_ (by kernel_rfl) ?_
      try go_wp2
      go_meet
      case rel => exact ⟨rfl, HG, B4, HD, HK, HE, HB⟩
 case rest =>
  clear Hb HB HE HG HD HK B4
  obtain ⟨rfl, HG, B4, HD, HK, HE, HB⟩ := hcut
  replace H := H.out
  cases r0 with
  | false =>
   replace H := ifF H
   obtain ⟨rfl, rfl⟩ : hv = r1 ∧ l = r2 := by simpa using H
   go_wp2
   go_ret
   exact ⟨rfl, HG.out, HD.out, HB.out, HK.out⟩
  | true =>
   replace H := ifT H
   obtain ⟨⟨t, n⟩, A1, H⟩ := bE H
   obtain ⟨y, A2, H⟩ := bE H
   obtain ⟨z, A3_, H⟩ := bE H
   dsimp only at A1 A2
   obtain ⟨rfl, rfl⟩ : z = r1 ∧ y = r2 := by simpa using H
   clear H
   obtain ⟨ab, aa, hcz2, hcz3⟩ := cz4 B4.out
   go_wp2_with (first | ((with_reducible refine gate_callee (f := 76) rfl ?_); refine gL (some 48) Try.func76 #[.int .i64 m1, .int .i64 m2, .int .i64 i] ?_; (with_reducible refine (spec_SpanOf.calls m1 m2 i t n _ A1.out).mono ?_); rintro e w12 ⟨rfl, hd⟩; have hb := hd.below; clear hd; refine ⟨_, rfl, ?_⟩; replace HB := aM (below_step HB.out hb); replace HE := aM (below_step HE.out hb); replace HG := aM (blk_below HG.out hb); replace B4 := aM (blk_below B4.out hb); replace HD := aM (Kd.R_below HD.out hb); replace HK := aM (HK.out.below hb); clear hb ab aa hcz2 hcz3; (simp only [Act.put, List.setIfInBounds_toArray, List.set_cons_zero, List.set_cons_succ])))
   go_loopg [11] k (fun kq v11 w' => ∃ (j : Int) (x : List Int), v11 = .int .i64 j ∧ Aside0 (spec_l8Put.l0 kq x t lb j = some y) ∧ Aside0 (kq ≤ k) ∧ Aside0 (x.length = l.length) ∧ Aside0 (w'.heap[g]? = some (.cells #[.int .i64 hv, .slice A l.length c] 31 (0, 0))) ∧ Aside0 (Kd.R (Kd.int .u8) 5 w' w0.heap.size ok (.slice A l.length c) x) ∧ Aside0 (Kept w w' (fun k => k = g ∨ some k = (Value.slice A l.length c).ownBlock)) ∧ Aside0 (Below w0.heap.size w0 w'))
   case atStart => exact ⟨0, l, rfl, A2, ⟨Nat.le_refl _⟩, ⟨rfl⟩, HG, HD, HK, HB⟩
   case round =>
    clear A2 HG HD HK HB HE B4
    obtain ⟨j, x, rfl, HA, HK1, HX, HG, HD, HK, HB⟩ := hrel
    cases gk with
    | zero => exact absurd HA.out (by simp [spec_l8Put.l0])
    | succ k1 =>
     have H := HA.out
     clear HA
     simp only [spec_l8Put.l0] at H
     by_cases c3 : j < (lb.length : Int)
     ·rw [if_pos c3] at H
      obtain ⟨p0, H⟩ := ifN H
      obtain ⟨p1, H⟩ := ifN H
      obtain ⟨p2, H⟩ := ifN H
      have H' := aM H
      clear H
      have c3b : decide (j < (lb.length : Int)) = true := decide_eq_true c3
      have P1 := aM p1
      have P2 := aM p2
      have p2' : wrap64 (t + j) < ((l.length : Nat) : Int) := by have := HX.out; omega
      go_wp2
      replace HB := aM (below_step HB.out (bd1 rfl))
      replace HG := aM (blk_below HG.out (bd1 rfl))
      replace HD := aM (Kd.R_below HD.out (bd1 rfl))
      replace HK := aM (HK.out.below (bd1 rfl))
      have p5 : 0 ≤ (j : Int) := p0
      have q5 : j < (lb.length : Int) := c3
      obtain ⟨ad, e3, hx0⟩ := Kd.at_int (HR.out _ HK.out) j p5 q5
      cases e3
      have hxb := aM hx0
      clear hx0
      obtain ⟨go, co5, eo5, gb5, gl5, cl5, HG5⟩ := Kd.R_form HD.out (by omega)
      (first | cases eo5 | (injection eo5 with ea_ en_ ec_; (first | subst ea_ | (injection ea_ with ea_; subst ea_)); subst ec_; clear en_))
      obtain ⟨hx5, hf5⟩ := Kd.R_celln 0 HD.out (wrap64 (t + j)) p1 p2'
      replace p5 := eq_true p5
      replace q5 := eq_true q5
      have p1' := eq_true p1
      have p2'' := eq_true p2'
      refine start_ (n := 13) (S := fun w' => w'.cell? ⟨g, 1, none⟩ = some (.slice (some ⟨go, 0, none⟩) l.length c) ∧ w'.cell? (ad.add j.toNat) = some (.int .u8 (rd lb j))) (ds := [12]) (Array.replicate 13 false) (by kernel_rfl) rfl rfl ⟨(blk_cell HG.out 1).trans rfl, hxb.out⟩ (fun hHeld => ?_)
      generalize hw_ : World.drew _ = w7 at HB HG HD HK hxb hx5 hf5 hHeld ⊢
      clear hw_
      refine pP 0 (some 57) ?_
      refine pP 1 (some 58) ?_
      refine pP 2 (some 59) ?_
      refine pP 4 (some 61) ?_
      refine pP 5 (some 62) ?_
      refine pP 6 (some 63) ?_
      refine pP 7 (some 64) ?_
      refine pP 8 (some 65) ?_
      refine pP 9 (some 66) ?_
      refine pT 3 (some 60) ?_
      refine pT 10 (some 67) ?_
      refine pP 11 (some 68) ?_
      refine pL 12 none (fun K hK => ?_)
      refine skip_ (w1 := ?_) (by rfl) rfl ?_ ?_
      rotate_left
      ·go_simp
       rfl
      have HP := Kd.R_putg HD.out (wrap64 (t + j)) (rd lb j)
      refine hK.out _ _ ?_
      clear hK K
      refine done_ (by kernel_rfl) ?_
      generalize hw8 : World.setCell w7 _ _ = w8 at HP ⊢
      have hw := (show Wr go w7 w8 from hw8 ▸ Wr.set w7 go _ [_])
      clear hw8
      have hne := Kd.R_ne HD.out HG.out (by decide)
      replace HG := aM ((hw.2.2 g (fun e => hne (by rw [e]; rfl))).trans HG.out)
      replace HB := aM (hw.below HB.out (Kd.R_base HD.out go rfl))
      replace HK := aM (HK.out.then_ hw.kept (fun k e => .inl (.inr (by rw [e]; rfl))))
      replace HD := aM HP.1
      clear HP hw hne hxb hx5 hf5 hHeld
      go_wp2
      go_roundg k1
      case measure => have := HK1.out; omega
      case rel => exact ⟨_, _, rfl, H', ⟨by have := HK1.out; omega⟩, ⟨by rw [List.length_set]; exact HX.out⟩, HG, HD, HK, HB⟩
     ·rw [if_neg c3] at H
      obtain rfl := Option.some.inj H
      clear H
      have c3b : decide (j < (lb.length : Int)) = false := decide_eq_false c3
      clear c3
      obtain ⟨ab, aa⟩ := cz2 HG.out
      go_wp2_with (first | ((with_reducible refine gate_callee (f := 82) rfl ?_); refine gL (some 75) Try.func82 #[.int .i64 hv, .int .i64 i] ?_; (with_reducible refine (spec_WithPart.calls hv i z _ A3_.out).mono ?_); rintro e w12 ⟨rfl, hd⟩; have hb := hd.below; clear hd; refine ⟨_, rfl, ?_⟩; replace HB := aM (below_step HB.out hb); replace HG := aM (blk_below HG.out hb); replace HD := aM (Kd.R_below HD.out hb); replace HK := aM (HK.out.below hb); clear hb ab aa; (simp only [Act.put, List.setIfInBounds_toArray, List.set_cons_zero, List.set_cons_succ])) | ((with_reducible refine gate_store (t := 3) (p := 77) rfl ?_); refine gSt [.int .i64 z] #[.int .i64 z, .slice A l.length c] HG.out ?_; intro w8 hw hbox; replace HD := aM (Kd.R_mono (Kd.R_move (Kd.R_types HD.out HG.out (by decide)) (fun k q => hw.2.2 k q.2)) (fun _ q => q.1)); replace HB := aM (hw.below HB.out HW.out); replace HK := aM (HK.out.then_ hw.kept (fun k e => .inl (.inl e))); replace HG := aM hbox; clear hw hbox))
      go_ret
      simp only [HX.out]
      exact ⟨by first | rfl | trivial, by first | rfl | trivial, HG.out, by have h_ := HD.out; exact h_, HB.out, HK.out⟩

end Go.Proofs.Ytfkndpjbkndhcaa.Q
