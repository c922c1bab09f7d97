/- Functions of the program as plain Lean functions, and that a call of each comes to what its function tells. Written by a program of this seat. -/
import Derived.Test.YtnoplippaiblcaaQ0
import Derived.Test.YtnoplippaiblcaaQ2
import Derived.Test.YtnoplippaiblcaaQ3
import Derived.Test.YtnoplippaiblcaaQ4
import Derived.Test.YtnoplippaiblcaaQ6
import Derived.Test.YtnoplippaiblcaaQ8
import Derived.Test.YtnoplippaiblcaaQ9
import Derived.Test.YtnoplippaiblcaaQ18
import Derived.Test.YtnoplippaiblcaaQ19
import Derived.Test.YtnoplippaiblcaaQ47
import Derived.Test.YtnoplippaiblcaaQ48
namespace Go.Proofs.Ytnoplippaiblcaa.Q
open Go.RowKit Go.Proofs.YtnoplippaiblcaaW.PrintWords Go.Proofs.YtnoplippaiblcaaW.PrintLast Go.Proofs.YtnoplippaiblcaaW.PrintMore
attribute [local go_sem] max2_int min2_int max_two min_two max_three min_three max_four min_four   -- for this text's walks alone
set_option linter.unusedVariables false
set_option linter.unusedSimpArgs false

/-! ### laws_FnExactPutPiece: function 9 -/
def laws_FnExactPutPiece.f (k : Nat) (a0_0 : Int) (a0_1 : Int) (a0_2 : Int) (l0_3 : List (S86)) (a1_0 : Int) (l1_1 : List Int) (a2 : Int) (l3 : List Int) : Option Bool := (if (l3.length : Int) > 1048576 then some true else ((laws_szManifest.f a0_0 a0_1 a0_2 l0_3 1048576).bind fun b8 => (if b8 < 0 then some true else ((laws_szBuild.f a1_0 l1_1 b8).bind fun b13 => (if b13 < 0 then some true else ((laws_toManifest.f k a0_0 a0_1 a0_2 l0_3).bind fun b19 => ((laws_toBuild.f k a1_0 l1_1).bind fun b79 => ((laws_toByteS.f k l3).bind fun b139 => ((spec_PutPiece.f k b19.1 b19.2.1 b19.2.2.1 b19.2.2.2 b79.1 b79.2 a2 b139).bind fun b199 => ((laws_toManifest.f k a0_0 a0_1 a0_2 l0_3).bind fun b382 => ((laws_toBuild.f k a1_0 l1_1).bind fun b397 => ((laws_toByteS.f k l3).bind fun b410 => ((impl_PutPiece.f k b382.1 b382.2.1 b382.2.2.1 b382.2.2.2 b397.1 b397.2 a2 b410).bind fun b418 => ((laws_eqBuild.f k b418.1 b418.2.1 b199.1 b199.2.1).bind fun b432 => (if b432 = true then (if b418.2.2 = b199.2.2 then ((laws_toManifest.f k a0_0 a0_1 a0_2 l0_3).bind fun b438 => ((laws_eqManifest.f k b382.1 b382.2.1 b382.2.2.1 b382.2.2.2 b438.1 b438.2.1 b438.2.2.1 b438.2.2.2).bind fun b449 => (if b449 = true then ((laws_toBuild.f k a1_0 l1_1).bind fun b454 => ((laws_eqBuild.f k b397.1 b397.2 b454.1 b454.2).bind fun b463 => (if b463 = true then ((laws_toByteS.f k l3).bind fun b467 => ((laws_eqByteS.f k b410 b467).bind fun b475 => (if b475 = true then ((laws_markManifest.f k b382.1 b382.2.1 b382.2.2.1 b382.2.2.2 1).bind fun b479 => ((laws_markBuild.f k b397.1 b397.2 b479.1).bind fun b484 => ((laws_markByteS.f k b410 b484.1).bind fun b489 => (if b489.1 < 0 then none else ((laws_eqBuild.f k b418.1 b418.2.1 b199.1 b199.2.1).bind fun b495 => (if b495 = true then (if b418.2.2 = b199.2.2 then ((laws_markBuild.f k b418.1 b418.2.1 1).bind fun b500 => ((laws_heldBuild.f k b418.1 b500.2 1).bind fun b505 => (if b505 < 0 then none else (if b505 = b500.1 then ((laws_toManifest.f k a0_0 a0_1 a0_2 l0_3).bind fun b512 => ((laws_toBuild.f k a1_0 l1_1).bind fun b572 => ((laws_toByteS.f k l3).bind fun b632 => ((impl_PutPiece.f k b512.1 b512.2.1 b512.2.2.1 b512.2.2.2 b572.1 b572.2 a2 b632).bind fun b692 => ((laws_eqBuild.f k b692.1 b692.2.1 b199.1 b199.2.1).bind fun b875 => (if b875 = true then (if b692.2.2 = b199.2.2 then ((laws_heldBuild.f k b418.1 b500.2 1).bind fun b880 => (if b880 < 0 then none else (if b880 = b500.1 then (some true) else none))) else none) else none)))))) else none)))) else none) else none)))))) else none))) else none))) else none))) else none) else none)))))))))))))))
theorem laws_FnExactPutPiece.nM {P : Program} {md : Region.Mode} {ops : Array Oper} {Q : Exit → Act → World → Prop} {S : World → Prop} {ds : List Nat} {n : Nat} {l : Array Bool} {a a' : Act} {w : World} (h : wpAnyLast P md ops Q S ds n l a' w) (e : a = a' := by first | (simp only [putAll, Act.put, List.setIfInBounds_toArray, List.set_cons_zero, List.set_cons_succ]; done) | (simp only [putAll, Act.put, List.setIfInBounds_toArray, List.set_cons_zero, List.set_cons_succ]; rfl)) : wpAnyLast P md ops Q S ds n l a w := norm_ e h
set_option maxHeartbeats 40000000 in
set_option maxRecDepth 100000 in
theorem laws_FnExactPutPiece.calls (k : Nat) (ak : Int) (ai : Int) (aj : Int) (av : Option Addr) (ax : Nat) (ag : List (S86)) (af : Int) (am : Option Addr) (an : Nat) (ae : List Int) (a2 : Int) (A3 : Option Addr) (c3 : Nat) (l3 : List Int) (r : Bool) (w : World) (aS : Kd.C k86 w av ag.length ag) (aT : ag.length ≤ ax) (aR : Kd.C (Kd.int .u8) w am ae.length ae) (aU : ae.length ≤ an) (hr3 : Kd.C (Kd.int .u8) w A3 l3.length l3) (hc3 : l3.length ≤ c3) (h : laws_FnExactPutPiece.f k ak ai aj ag af ae a2 l3 = some r) :
  Calls Try.prog 9 #[.agg #[.int .i64 ak, .int .i64 ai, .int .i64 aj, .slice av ag.length ax], .agg #[.int .i64 af, .slice am ae.length an], .int .i64 a2, .slice A3 l3.length c3] w fun e w' => e = .returned (.bool r) ∧ Below w.heap.size w w' := by
 have hu24 := Try.underlying24
 have hu27 := Try.underlying27
 have hu33 := Try.underlying33
 have hu35 := Try.underlying35
 have al := aM (And.intro aS aT)
 have ah := aM (And.intro aR aU)
 have HR3 := aM (And.intro hr3 hc3)
 clear aS aT aR aU hr3 hc3
 have HB := aM (Below.refl w.heap.size w)
 have HS := aM (show Sep w.heap.size w [] from trivial)
 unfold laws_FnExactPutPiece.f at h
 go_enter Try.func9, Try.ntmps9
 go_wp2_with (first | ((with_reducible refine gate_dst (N := 4) rfl ?_); refine gBx 4 #[.int .i64 ak, .int .i64 ai, .int .i64 aj, .slice av ag.length ax] 24 ?_; intro g1 hg w2 hbox hb; replace HS := aM (Sep.blk HS.out hb HB.out.size hg hbox); replace HB := aM (below_step HB.out hb); clear hb hbox hg; (simp only [Act.put, List.setIfInBounds_toArray, List.set_cons_zero, List.set_cons_succ])) | ((with_reducible refine gate_dst (N := 5) rfl ?_); refine gBx 5 #[.int .i64 af, .slice am ae.length an] 27 ?_; intro g4 hg w5 hbox hb; replace HS := aM (Sep.blk HS.out hb HB.out.size hg hbox); replace HB := aM (below_step HB.out hb); clear hb hbox hg; (simp only [Act.put, List.setIfInBounds_toArray, List.set_cons_zero, List.set_cons_succ])) | ((with_reducible refine gate_dst (N := 24) rfl ?_); generalize hG_ : wpList _ _ _ _ _ _ = G_))
 subst hG_
 by_cases c7 : (l3.length : Int) > 1048576
 ·rw [if_pos c7] at h
  have c7b0 : decide (1048576 < (l3.length : Int)) = true := decide_eq_true c7
  have c7n : decide (1048576 < l3.length) = true := decide_eq_true (by omega)
  obtain rfl := Option.some.inj h
  clear h c7
  go_wp2
  go_ret
  exact ⟨rfl, HB.out⟩
 rw [if_neg c7] at h
 have c7b0 : decide (1048576 < (l3.length : Int)) = false := decide_eq_false c7
 have c7n : decide (1048576 < l3.length) = false := decide_eq_false (by omega)
 clear c7
 replace h := bE h; obtain ⟨t9, A10, h⟩ := h
 go_wp2_with (first | ((with_reducible refine gate_dst (N := 25) rfl ?_); refine gLd 25 (blkP (Sep.p1 HS.out)) ?_; (simp only [Act.put, List.setIfInBounds_toArray, List.set_cons_zero, List.set_cons_succ])) | ((with_reducible refine gate_callee (f := 11) rfl ?_); (with_reducible refine gate_dst (N := 27) rfl ?_); refine gL (some 27) Try.func11 #[.agg #[.int .i64 ak, .int .i64 ai, .int .i64 aj, .slice av ag.length ax], .int .i64 1048576] ?_; refine (laws_szManifest.calls ak ai aj _ _ ag 1048576 t9 _ (Kd.C_below al.out.1 HB.out) al.out.2 A10.out).mono ?_; rintro e w11 ⟨rfl, hb⟩; refine ⟨_, rfl, ?_⟩; replace HS := aM (HS.out.below hb); replace HB := aM (below_step HB.out hb); clear hb; (simp only [Act.put, List.setIfInBounds_toArray, List.set_cons_zero, List.set_cons_succ])) | ((with_reducible refine gate_dst (N := 29) rfl ?_); generalize hG_ : wpList _ _ _ _ _ _ = G_))
 subst hG_
 by_cases c12 : t9 < 0
 ·rw [if_pos c12] at h
  have c12b0 : decide (t9 < 0) = true := decide_eq_true c12
  obtain rfl := Option.some.inj h
  clear h c12
  go_wp2
  go_ret
  exact ⟨rfl, HB.out⟩
 rw [if_neg c12] at h
 have c12b0 : decide (t9 < 0) = false := decide_eq_false c12
 clear c12
 replace h := bE h; obtain ⟨t14, A15, h⟩ := h
 go_wp2_with (first | ((with_reducible refine gate_dst (N := 30) rfl ?_); refine gLd 30 (blkP (Sep.p0 HS.out)) ?_; (simp only [Act.put, List.setIfInBounds_toArray, List.set_cons_zero, List.set_cons_succ])) | ((with_reducible refine gate_callee (f := 12) rfl ?_); (with_reducible refine gate_dst (N := 32) rfl ?_); refine gL (some 32) Try.func12 #[.agg #[.int .i64 af, .slice am ae.length an], .int .i64 t9] ?_; refine (laws_szBuild.calls af _ _ ae t9 t14 _ (Kd.C_below ah.out.1 HB.out) ah.out.2 A15.out).mono ?_; rintro e w16 ⟨rfl, hb⟩; refine ⟨_, rfl, ?_⟩; replace HS := aM (HS.out.below hb); replace HB := aM (below_step HB.out hb); clear hb; (simp only [Act.put, List.setIfInBounds_toArray, List.set_cons_zero, List.set_cons_succ])) | ((with_reducible refine gate_dst (N := 34) rfl ?_); generalize hG_ : wpList _ _ _ _ _ _ = G_))
 subst hG_
 by_cases c17 : t14 < 0
 ·rw [if_pos c17] at h
  have c17b0 : decide (t14 < 0) = true := decide_eq_true c17
  obtain rfl := Option.some.inj h
  clear h c17
  go_wp2
  go_ret
  exact ⟨rfl, HB.out⟩
 rw [if_neg c17] at h
 have c17b0 : decide (t14 < 0) = false := decide_eq_false c17
 clear c17
 replace h := bE h; obtain ⟨⟨t20, t21, t22, t23⟩, A24, h⟩ := h
 dsimp only at h
 replace h := bE h; obtain ⟨⟨t80, t81⟩, A82, h⟩ := h
 dsimp only at h
 replace h := bE h; obtain ⟨t140, A141, h⟩ := h
 replace h := bE h; obtain ⟨⟨t200, t201, t202⟩, A203, h⟩ := h
 dsimp only at h
 go_wp2_with (first | fail)
 replace HS := aM (HS.out.below (bd1 rfl))
 replace HB := aM (below_step HB.out (bd1 rfl))
 refine start_ (n := 14) (S := fun w' => w'.cell? ⟨g1, 0, none⟩ = some (.int .i64 ak) ∧ w'.cell? ⟨g1, 1, none⟩ = some (.int .i64 ai) ∧ w'.cell? ⟨g1, 2, none⟩ = some (.int .i64 aj) ∧ w'.cell? ⟨g1, 3, none⟩ = some (.slice av ag.length ax) ∧ w'.cell? ⟨g4, 0, none⟩ = some (.int .i64 af) ∧ w'.cell? ⟨g4, 1, none⟩ = some (.slice am ae.length an)) (ds := []) (Array.replicate 14 false) (by kernel_rfl) rfl rfl ⟨(blk_cell (blkP (Sep.p1 HS.out)) 0).trans rfl, (blk_cell (blkP (Sep.p1 HS.out)) 1).trans rfl, (blk_cell (blkP (Sep.p1 HS.out)) 2).trans rfl, (blk_cell (blkP (Sep.p1 HS.out)) 3).trans rfl, (blk_cell (blkP (Sep.p0 HS.out)) 0).trans rfl, (blk_cell (blkP (Sep.p0 HS.out)) 1).trans rfl⟩ (fun hHeld => ?_)
 generalize hw_ : World.drew _ = w18 at HS HB hHeld ⊢
 clear hw_
 refine pP 4 (some 40) ?_
 refine pP 5 (some 41) ?_
 refine pT 0 (some 36) ?_
 refine pT 2 (some 38) ?_
 refine join_ (σ := Value × Value × Value × Value × Value × Value × Value × Value × Value) 0 (Array.replicate 14 true) (fun s => [(37, s.1), (39, s.2.1), (42, s.2.2.1), (43, s.2.2.2.1), (35, s.2.2.2.2.1), (44, s.2.2.2.2.2.1), (45, s.2.2.2.2.2.2.1), (10, s.2.2.2.2.2.2.2.1), (11, s.2.2.2.2.2.2.2.2)]) (fun s w' => ∃ (az : Nat) (aN : Nat) (aO : Nat) (A27 : Option Addr) (c28 : Nat) (A85 : Option Addr) (c86 : Nat) (aq : Option Addr) (ao : Nat) (aa : Option Addr) (ab : Nat), s = (.agg #[.int .i64 t20, .int .i64 t21, .int .i64 t22, .slice A27 t23.length c28], .agg #[.int .i64 t80, .slice A85 t81.length c86], .slice aq t140.length ao, .tuple #[.agg #[.int .i64 t200, .slice aa t201.length ab], .bool t202], .tuple #[.agg #[.int .i64 t200, .slice aa t201.length ab], .bool t202], .agg #[.int .i64 t200, .slice aa t201.length ab], .bool t202, .pointer (some ⟨az, 0, none⟩), .bool t202) ∧ Sep w.heap.size w' (iBlk az #[.int .i64 t200, .slice aa t201.length ab] 35 :: iRow (Kd.int .u8) 5 w.heap.size aN aO (.slice aa t201.length ab) t201 :: [iBlk g4 #[.int .i64 af, .slice am ae.length an] 27, iBlk g1 #[.int .i64 ak, .int .i64 ai, .int .i64 aj, .slice av ag.length ax] 24]) ∧ Below w.heap.size w w') ?_ ?_
 rotate_left
 ·intro hCont
  refine two_ (i := 1) (j := 11) (Ni := (some 37)) (Nj := (some 10)) #[true, true, true, false, true, true, false, false, false, false, false, false, false, false] #[true, false, true, false, true, true, false, false, false, false, false, true, false, false] rfl rfl rfl rfl (by kernel_rfl) (by decide) (by decide) (fun K hK => ?_) (fun K hK => ?_)
  ·skip
   refine gG Try.func14 #[.agg #[.int .i64 ak, .int .i64 ai, .int .i64 aj, .slice av ag.length ax]] ?_
   refine (laws_toManifest.calls k ak ai aj _ _ ag t20 t21 t22 t23 _ (Kd.C_below al.out.1 HB.out) al.out.2 A24.out).mono ?_
   rintro e w25 ⟨v26, rfl, ho0, hb⟩; refine ⟨_, rfl, ?_⟩
   obtain ⟨A27, c28, hz⟩ := Kd.R_slice ho0; subst hz
   replace HS := aM (Sep.row HS.out hb HB.out.size ho0)
   replace HB := aM (below_step HB.out hb)
   clear ho0 hb
   refine hK.out _ _ ⟨(blk_cell (blkP (Sep.p2 HS.out)) 0).trans rfl, (blk_cell (blkP (Sep.p2 HS.out)) 1).trans rfl, (blk_cell (blkP (Sep.p2 HS.out)) 2).trans rfl, (blk_cell (blkP (Sep.p2 HS.out)) 3).trans rfl, (blk_cell (blkP (Sep.p1 HS.out)) 0).trans rfl, (blk_cell (blkP (Sep.p1 HS.out)) 1).trans rfl⟩ (fun hHeld => ?_)
   clear hK K
   refine nR ?_
   refine two_ (i := 3) (j := 11) (Ni := (some 39)) (Nj := (some 10)) #[true, true, true, true, true, true, false, false, false, false, false, false, false, false] #[true, true, true, false, true, true, false, false, false, false, false, true, false, false] rfl rfl rfl rfl (by kernel_rfl) (by decide) (by decide) (fun K hK => ?_) (fun K hK => ?_)
   ·skip
    refine gG Try.func15 #[.agg #[.int .i64 af, .slice am ae.length an]] ?_
    refine (laws_toBuild.calls k af _ _ ae t80 t81 _ (Kd.C_below ah.out.1 HB.out) ah.out.2 A82.out).mono ?_
    rintro e w83 ⟨v84, rfl, ho0, hb⟩; refine ⟨_, rfl, ?_⟩
    obtain ⟨A85, c86, hz⟩ := Kd.R_slice ho0; subst hz
    replace HS := aM (Sep.row HS.out hb HB.out.size ho0)
    replace HB := aM (below_step HB.out hb)
    clear ho0 hb
    refine hK.out _ _ ⟨(blk_cell (blkP (Sep.p3 HS.out)) 0).trans rfl, (blk_cell (blkP (Sep.p3 HS.out)) 1).trans rfl, (blk_cell (blkP (Sep.p3 HS.out)) 2).trans rfl, (blk_cell (blkP (Sep.p3 HS.out)) 3).trans rfl, (blk_cell (blkP (Sep.p2 HS.out)) 0).trans rfl, (blk_cell (blkP (Sep.p2 HS.out)) 1).trans rfl⟩ (fun hHeld => ?_)
    clear hK K
    refine nR ?_
    refine two_ (i := 6) (j := 11) (Ni := (some 42)) (Nj := (some 10)) #[true, true, true, true, true, true, true, false, false, false, false, false, false, false] #[true, true, true, true, true, true, false, false, false, false, false, true, false, false] rfl rfl rfl rfl (by kernel_rfl) (by decide) (by decide) (fun K hK => ?_) (fun K hK => ?_)
    ·skip
     refine gG Try.func25 #[.slice A3 l3.length c3] ?_
     refine (laws_toByteS.calls k _ _ l3 t140 _ (Kd.C_below HR3.out.1 HB.out) HR3.out.2 A141.out).mono ?_
     rintro e aK ⟨aL, rfl, ho0, hb⟩; refine ⟨_, rfl, ?_⟩
     obtain ⟨aq, ao, hz⟩ := Kd.R_slice ho0; subst hz
     replace HS := aM (Sep.row HS.out hb HB.out.size ho0)
     replace HB := aM (below_step HB.out hb)
     clear ho0 hb
     refine hK.out _ _ ⟨(blk_cell (blkP (Sep.p4 HS.out)) 0).trans rfl, (blk_cell (blkP (Sep.p4 HS.out)) 1).trans rfl, (blk_cell (blkP (Sep.p4 HS.out)) 2).trans rfl, (blk_cell (blkP (Sep.p4 HS.out)) 3).trans rfl, (blk_cell (blkP (Sep.p3 HS.out)) 0).trans rfl, (blk_cell (blkP (Sep.p3 HS.out)) 1).trans rfl⟩ (fun hHeld => ?_)
     clear hK K
     refine nR ?_
     refine two_ (i := 7) (j := 11) (Ni := (some 43)) (Nj := (some 10)) #[true, true, true, true, true, true, true, true, false, false, false, false, false, false] #[true, true, true, true, true, true, true, false, false, false, false, true, false, false] rfl rfl rfl rfl (by kernel_rfl) (by decide) (by decide) (fun K hK => ?_) (fun K hK => ?_)
     ·skip
      refine gG Try.func36 #[.agg #[.int .i64 t20, .int .i64 t21, .int .i64 t22, .slice A27 t23.length c28], .agg #[.int .i64 t80, .slice A85 t81.length c86], .int .i64 a2, .slice aq t140.length ao] ?_
      refine (spec_PutPiece.calls k t20 t21 t22 _ _ t23 t80 _ _ t81 a2 _ _ t140 t200 t201 t202 _ (rowC (Sep.p2 HS.out)) (rowL (Sep.p2 HS.out)) (rowC (Sep.p1 HS.out)) (rowL (Sep.p1 HS.out)) (rowC (Sep.p0 HS.out)) (rowL (Sep.p0 HS.out)) A203.out).mono ?_
      rintro e aH ⟨aJ, rfl, ho0, hb⟩; refine ⟨_, rfl, ?_⟩
      obtain ⟨aa, ab, hz⟩ := Kd.R_slice ho0; subst hz
      replace HS := aM (Sep.row HS.out hb HB.out.size ho0)
      replace HB := aM (below_step HB.out hb)
      clear ho0 hb
      refine hK.out _ _ ⟨(blk_cell (blkP (Sep.p5 HS.out)) 0).trans rfl, (blk_cell (blkP (Sep.p5 HS.out)) 1).trans rfl, (blk_cell (blkP (Sep.p5 HS.out)) 2).trans rfl, (blk_cell (blkP (Sep.p5 HS.out)) 3).trans rfl, (blk_cell (blkP (Sep.p4 HS.out)) 0).trans rfl, (blk_cell (blkP (Sep.p4 HS.out)) 1).trans rfl⟩ (fun hHeld => ?_)
      clear hK K
      refine nR ?_
      refine pP 8 (some 35) ?_
      refine pP 9 (some 44) ?_
      refine pP 10 (some 45) ?_
      refine pO 11 (some 10) (fun K hK => ?_)
      refine gBxS 10 #[.int .i64 0, .slice none 0 0] 35 ?_
      intro az hg aE hbox hb; replace HS := aM (Sep.blk HS.out hb HB.out.size hg hbox); replace HB := aM (below_step HB.out hb); clear hb hbox hg
      refine hK.out _ _ ⟨(blk_cell (blkP (Sep.p6 HS.out)) 0).trans rfl, (blk_cell (blkP (Sep.p6 HS.out)) 1).trans rfl, (blk_cell (blkP (Sep.p6 HS.out)) 2).trans rfl, (blk_cell (blkP (Sep.p6 HS.out)) 3).trans rfl, (blk_cell (blkP (Sep.p5 HS.out)) 0).trans rfl, (blk_cell (blkP (Sep.p5 HS.out)) 1).trans rfl⟩ (fun hHeld => ?_)
      clear hK K
      refine nR ?_
      refine pO 12 none (fun K hK => ?_)
      refine gStS [.int .i64 t200, .slice aa t201.length ab] #[.int .i64 t200, .slice aa t201.length ab] (blkP (Sep.p0 HS.out)) ?_
      intro aG hw hbox; replace HB := aM (hw.below HB.out (Sep.r0 HS.out).1); replace HS := aM (Sep.wr HS.out hw hbox); clear hw hbox
      refine hK.out _ _ ⟨(blk_cell (blkP (Sep.p6 HS.out)) 0).trans rfl, (blk_cell (blkP (Sep.p6 HS.out)) 1).trans rfl, (blk_cell (blkP (Sep.p6 HS.out)) 2).trans rfl, (blk_cell (blkP (Sep.p6 HS.out)) 3).trans rfl, (blk_cell (blkP (Sep.p5 HS.out)) 0).trans rfl, (blk_cell (blkP (Sep.p5 HS.out)) 1).trans rfl⟩ (fun hHeld => ?_)
      clear hK K
      refine pP 13 (some 11) ?_
      replace HS := aM (Sep.f2 HS.out).drop
      replace HS := aM (Sep.f2 HS.out).drop
      replace HS := aM (Sep.f2 HS.out).drop
      replace HS := aM (Sep.f3 HS.out)
      replace HS := aM (Sep.f3 HS.out)
      replace HS := aM (Sep.f3 HS.out)
      replace HS := aM (Sep.f3 HS.out)
      exact laws_FnExactPutPiece.nM (hCont (.agg #[.int .i64 t20, .int .i64 t21, .int .i64 t22, .slice A27 t23.length c28], .agg #[.int .i64 t80, .slice A85 t81.length c86], .slice aq t140.length ao, .tuple #[.agg #[.int .i64 t200, .slice aa t201.length ab], .bool t202], .tuple #[.agg #[.int .i64 t200, .slice aa t201.length ab], .bool t202], .agg #[.int .i64 t200, .slice aa t201.length ab], .bool t202, .pointer (some ⟨az, 0, none⟩), .bool t202) _ ⟨_, _, _, _, _, _, _, _, _, _, _, rfl, HS.out, HB.out⟩)
     ·skip
      refine gBxS 10 #[.int .i64 0, .slice none 0 0] 35 ?_
      intro az hg aE hbox hb; replace HS := aM (Sep.blk HS.out hb HB.out.size hg hbox); replace HB := aM (below_step HB.out hb); clear hb hbox hg
      refine hK.out _ _ ⟨(blk_cell (blkP (Sep.p5 HS.out)) 0).trans rfl, (blk_cell (blkP (Sep.p5 HS.out)) 1).trans rfl, (blk_cell (blkP (Sep.p5 HS.out)) 2).trans rfl, (blk_cell (blkP (Sep.p5 HS.out)) 3).trans rfl, (blk_cell (blkP (Sep.p4 HS.out)) 0).trans rfl, (blk_cell (blkP (Sep.p4 HS.out)) 1).trans rfl⟩ (fun hHeld => ?_)
      clear hK K
      refine nR ?_
      refine pO 7 (some 43) (fun K hK => ?_)
      refine gG Try.func36 #[.agg #[.int .i64 t20, .int .i64 t21, .int .i64 t22, .slice A27 t23.length c28], .agg #[.int .i64 t80, .slice A85 t81.length c86], .int .i64 a2, .slice aq t140.length ao] ?_
      refine (spec_PutPiece.calls k t20 t21 t22 _ _ t23 t80 _ _ t81 a2 _ _ t140 t200 t201 t202 _ (rowC (Sep.p3 HS.out)) (rowL (Sep.p3 HS.out)) (rowC (Sep.p2 HS.out)) (rowL (Sep.p2 HS.out)) (rowC (Sep.p1 HS.out)) (rowL (Sep.p1 HS.out)) A203.out).mono ?_
      rintro e aH ⟨aJ, rfl, ho0, hb⟩; refine ⟨_, rfl, ?_⟩
      obtain ⟨aa, ab, hz⟩ := Kd.R_slice ho0; subst hz
      replace HS := aM (Sep.row HS.out hb HB.out.size ho0)
      replace HB := aM (below_step HB.out hb)
      clear ho0 hb
      refine hK.out _ _ ⟨(blk_cell (blkP (Sep.p6 HS.out)) 0).trans rfl, (blk_cell (blkP (Sep.p6 HS.out)) 1).trans rfl, (blk_cell (blkP (Sep.p6 HS.out)) 2).trans rfl, (blk_cell (blkP (Sep.p6 HS.out)) 3).trans rfl, (blk_cell (blkP (Sep.p5 HS.out)) 0).trans rfl, (blk_cell (blkP (Sep.p5 HS.out)) 1).trans rfl⟩ (fun hHeld => ?_)
      clear hK K
      refine nR ?_
      refine pP 8 (some 35) ?_
      refine pP 9 (some 44) ?_
      refine pP 10 (some 45) ?_
      refine pO 12 none (fun K hK => ?_)
      replace HS := aM (Sep.f1 HS.out)
      refine gStS [.int .i64 t200, .slice aa t201.length ab] #[.int .i64 t200, .slice aa t201.length ab] (blkP (Sep.p0 HS.out)) ?_
      intro aG hw hbox; replace HB := aM (hw.below HB.out (Sep.r0 HS.out).1); replace HS := aM (Sep.wr HS.out hw hbox); clear hw hbox
      refine hK.out _ _ ⟨(blk_cell (blkP (Sep.p6 HS.out)) 0).trans rfl, (blk_cell (blkP (Sep.p6 HS.out)) 1).trans rfl, (blk_cell (blkP (Sep.p6 HS.out)) 2).trans rfl, (blk_cell (blkP (Sep.p6 HS.out)) 3).trans rfl, (blk_cell (blkP (Sep.p5 HS.out)) 0).trans rfl, (blk_cell (blkP (Sep.p5 HS.out)) 1).trans rfl⟩ (fun hHeld => ?_)
      clear hK K
      refine pP 13 (some 11) ?_
      replace HS := aM (Sep.f2 HS.out).drop
      replace HS := aM (Sep.f2 HS.out).drop
      replace HS := aM (Sep.f2 HS.out).drop
      replace HS := aM (Sep.f3 HS.out)
      replace HS := aM (Sep.f3 HS.out)
      replace HS := aM (Sep.f3 HS.out)
      replace HS := aM (Sep.f3 HS.out)
      exact laws_FnExactPutPiece.nM (hCont (.agg #[.int .i64 t20, .int .i64 t21, .int .i64 t22, .slice A27 t23.length c28], .agg #[.int .i64 t80, .slice A85 t81.length c86], .slice aq t140.length ao, .tuple #[.agg #[.int .i64 t200, .slice aa t201.length ab], .bool t202], .tuple #[.agg #[.int .i64 t200, .slice aa t201.length ab], .bool t202], .agg #[.int .i64 t200, .slice aa t201.length ab], .bool t202, .pointer (some ⟨az, 0, none⟩), .bool t202) _ ⟨_, _, _, _, _, _, _, _, _, _, _, rfl, HS.out, HB.out⟩)
    ·skip
     refine gBxS 10 #[.int .i64 0, .slice none 0 0] 35 ?_
     intro az hg aE hbox hb; replace HS := aM (Sep.blk HS.out hb HB.out.size hg hbox); replace HB := aM (below_step HB.out hb); clear hb hbox hg
     refine hK.out _ _ ⟨(blk_cell (blkP (Sep.p4 HS.out)) 0).trans rfl, (blk_cell (blkP (Sep.p4 HS.out)) 1).trans rfl, (blk_cell (blkP (Sep.p4 HS.out)) 2).trans rfl, (blk_cell (blkP (Sep.p4 HS.out)) 3).trans rfl, (blk_cell (blkP (Sep.p3 HS.out)) 0).trans rfl, (blk_cell (blkP (Sep.p3 HS.out)) 1).trans rfl⟩ (fun hHeld => ?_)
     clear hK K
     refine nR ?_
     refine pO 6 (some 42) (fun K hK => ?_)
     refine gG Try.func25 #[.slice A3 l3.length c3] ?_
     refine (laws_toByteS.calls k _ _ l3 t140 _ (Kd.C_below HR3.out.1 HB.out) HR3.out.2 A141.out).mono ?_
     rintro e aK ⟨aL, rfl, ho0, hb⟩; refine ⟨_, rfl, ?_⟩
     obtain ⟨aq, ao, hz⟩ := Kd.R_slice ho0; subst hz
     replace HS := aM (Sep.row HS.out hb HB.out.size ho0)
     replace HB := aM (below_step HB.out hb)
     clear ho0 hb
     refine hK.out _ _ ⟨(blk_cell (blkP (Sep.p5 HS.out)) 0).trans rfl, (blk_cell (blkP (Sep.p5 HS.out)) 1).trans rfl, (blk_cell (blkP (Sep.p5 HS.out)) 2).trans rfl, (blk_cell (blkP (Sep.p5 HS.out)) 3).trans rfl, (blk_cell (blkP (Sep.p4 HS.out)) 0).trans rfl, (blk_cell (blkP (Sep.p4 HS.out)) 1).trans rfl⟩ (fun hHeld => ?_)
     clear hK K
     refine nR ?_
     refine pO 7 (some 43) (fun K hK => ?_)
     refine gG Try.func36 #[.agg #[.int .i64 t20, .int .i64 t21, .int .i64 t22, .slice A27 t23.length c28], .agg #[.int .i64 t80, .slice A85 t81.length c86], .int .i64 a2, .slice aq t140.length ao] ?_
     refine (spec_PutPiece.calls k t20 t21 t22 _ _ t23 t80 _ _ t81 a2 _ _ t140 t200 t201 t202 _ (rowC (Sep.p3 HS.out)) (rowL (Sep.p3 HS.out)) (rowC (Sep.p2 HS.out)) (rowL (Sep.p2 HS.out)) (rowC (Sep.p0 HS.out)) (rowL (Sep.p0 HS.out)) A203.out).mono ?_
     rintro e aH ⟨aJ, rfl, ho0, hb⟩; refine ⟨_, rfl, ?_⟩
     obtain ⟨aa, ab, hz⟩ := Kd.R_slice ho0; subst hz
     replace HS := aM (Sep.row HS.out hb HB.out.size ho0)
     replace HB := aM (below_step HB.out hb)
     clear ho0 hb
     refine hK.out _ _ ⟨(blk_cell (blkP (Sep.p6 HS.out)) 0).trans rfl, (blk_cell (blkP (Sep.p6 HS.out)) 1).trans rfl, (blk_cell (blkP (Sep.p6 HS.out)) 2).trans rfl, (blk_cell (blkP (Sep.p6 HS.out)) 3).trans rfl, (blk_cell (blkP (Sep.p5 HS.out)) 0).trans rfl, (blk_cell (blkP (Sep.p5 HS.out)) 1).trans rfl⟩ (fun hHeld => ?_)
     clear hK K
     refine nR ?_
     refine pP 8 (some 35) ?_
     refine pP 9 (some 44) ?_
     refine pP 10 (some 45) ?_
     refine pO 12 none (fun K hK => ?_)
     replace HS := aM (Sep.f2 HS.out)
     refine gStS [.int .i64 t200, .slice aa t201.length ab] #[.int .i64 t200, .slice aa t201.length ab] (blkP (Sep.p0 HS.out)) ?_
     intro aG hw hbox; replace HB := aM (hw.below HB.out (Sep.r0 HS.out).1); replace HS := aM (Sep.wr HS.out hw hbox); clear hw hbox
     refine hK.out _ _ ⟨(blk_cell (blkP (Sep.p6 HS.out)) 0).trans rfl, (blk_cell (blkP (Sep.p6 HS.out)) 1).trans rfl, (blk_cell (blkP (Sep.p6 HS.out)) 2).trans rfl, (blk_cell (blkP (Sep.p6 HS.out)) 3).trans rfl, (blk_cell (blkP (Sep.p5 HS.out)) 0).trans rfl, (blk_cell (blkP (Sep.p5 HS.out)) 1).trans rfl⟩ (fun hHeld => ?_)
     clear hK K
     refine pP 13 (some 11) ?_
     replace HS := aM (Sep.f2 HS.out).drop
     replace HS := aM (Sep.f2 HS.out).drop
     replace HS := aM (Sep.f2 HS.out).drop
     replace HS := aM (Sep.f3 HS.out)
     replace HS := aM (Sep.f3 HS.out)
     replace HS := aM (Sep.f3 HS.out)
     replace HS := aM (Sep.f3 HS.out)
     exact laws_FnExactPutPiece.nM (hCont (.agg #[.int .i64 t20, .int .i64 t21, .int .i64 t22, .slice A27 t23.length c28], .agg #[.int .i64 t80, .slice A85 t81.length c86], .slice aq t140.length ao, .tuple #[.agg #[.int .i64 t200, .slice aa t201.length ab], .bool t202], .tuple #[.agg #[.int .i64 t200, .slice aa t201.length ab], .bool t202], .agg #[.int .i64 t200, .slice aa t201.length ab], .bool t202, .pointer (some ⟨az, 0, none⟩), .bool t202) _ ⟨_, _, _, _, _, _, _, _, _, _, _, rfl, HS.out, HB.out⟩)
   ·skip
    refine gBxS 10 #[.int .i64 0, .slice none 0 0] 35 ?_
    intro az hg aE hbox hb; replace HS := aM (Sep.blk HS.out hb HB.out.size hg hbox); replace HB := aM (below_step HB.out hb); clear hb hbox hg
    refine hK.out _ _ ⟨(blk_cell (blkP (Sep.p3 HS.out)) 0).trans rfl, (blk_cell (blkP (Sep.p3 HS.out)) 1).trans rfl, (blk_cell (blkP (Sep.p3 HS.out)) 2).trans rfl, (blk_cell (blkP (Sep.p3 HS.out)) 3).trans rfl, (blk_cell (blkP (Sep.p2 HS.out)) 0).trans rfl, (blk_cell (blkP (Sep.p2 HS.out)) 1).trans rfl⟩ (fun hHeld => ?_)
    clear hK K
    refine nR ?_
    refine pO 3 (some 39) (fun K hK => ?_)
    refine gG Try.func15 #[.agg #[.int .i64 af, .slice am ae.length an]] ?_
    refine (laws_toBuild.calls k af _ _ ae t80 t81 _ (Kd.C_below ah.out.1 HB.out) ah.out.2 A82.out).mono ?_
    rintro e w83 ⟨v84, rfl, ho0, hb⟩; refine ⟨_, rfl, ?_⟩
    obtain ⟨A85, c86, hz⟩ := Kd.R_slice ho0; subst hz
    replace HS := aM (Sep.row HS.out hb HB.out.size ho0)
    replace HB := aM (below_step HB.out hb)
    clear ho0 hb
    refine hK.out _ _ ⟨(blk_cell (blkP (Sep.p4 HS.out)) 0).trans rfl, (blk_cell (blkP (Sep.p4 HS.out)) 1).trans rfl, (blk_cell (blkP (Sep.p4 HS.out)) 2).trans rfl, (blk_cell (blkP (Sep.p4 HS.out)) 3).trans rfl, (blk_cell (blkP (Sep.p3 HS.out)) 0).trans rfl, (blk_cell (blkP (Sep.p3 HS.out)) 1).trans rfl⟩ (fun hHeld => ?_)
    clear hK K
    refine nR ?_
    refine pO 6 (some 42) (fun K hK => ?_)
    refine gG Try.func25 #[.slice A3 l3.length c3] ?_
    refine (laws_toByteS.calls k _ _ l3 t140 _ (Kd.C_below HR3.out.1 HB.out) HR3.out.2 A141.out).mono ?_
    rintro e aK ⟨aL, rfl, ho0, hb⟩; refine ⟨_, rfl, ?_⟩
    obtain ⟨aq, ao, hz⟩ := Kd.R_slice ho0; subst hz
    replace HS := aM (Sep.row HS.out hb HB.out.size ho0)
    replace HB := aM (below_step HB.out hb)
    clear ho0 hb
    refine hK.out _ _ ⟨(blk_cell (blkP (Sep.p5 HS.out)) 0).trans rfl, (blk_cell (blkP (Sep.p5 HS.out)) 1).trans rfl, (blk_cell (blkP (Sep.p5 HS.out)) 2).trans rfl, (blk_cell (blkP (Sep.p5 HS.out)) 3).trans rfl, (blk_cell (blkP (Sep.p4 HS.out)) 0).trans rfl, (blk_cell (blkP (Sep.p4 HS.out)) 1).trans rfl⟩ (fun hHeld => ?_)
    clear hK K
    refine nR ?_
    refine pO 7 (some 43) (fun K hK => ?_)
    refine gG Try.func36 #[.agg #[.int .i64 t20, .int .i64 t21, .int .i64 t22, .slice A27 t23.length c28], .agg #[.int .i64 t80, .slice A85 t81.length c86], .int .i64 a2, .slice aq t140.length ao] ?_
    refine (spec_PutPiece.calls k t20 t21 t22 _ _ t23 t80 _ _ t81 a2 _ _ t140 t200 t201 t202 _ (rowC (Sep.p3 HS.out)) (rowL (Sep.p3 HS.out)) (rowC (Sep.p1 HS.out)) (rowL (Sep.p1 HS.out)) (rowC (Sep.p0 HS.out)) (rowL (Sep.p0 HS.out)) A203.out).mono ?_
    rintro e aH ⟨aJ, rfl, ho0, hb⟩; refine ⟨_, rfl, ?_⟩
    obtain ⟨aa, ab, hz⟩ := Kd.R_slice ho0; subst hz
    replace HS := aM (Sep.row HS.out hb HB.out.size ho0)
    replace HB := aM (below_step HB.out hb)
    clear ho0 hb
    refine hK.out _ _ ⟨(blk_cell (blkP (Sep.p6 HS.out)) 0).trans rfl, (blk_cell (blkP (Sep.p6 HS.out)) 1).trans rfl, (blk_cell (blkP (Sep.p6 HS.out)) 2).trans rfl, (blk_cell (blkP (Sep.p6 HS.out)) 3).trans rfl, (blk_cell (blkP (Sep.p5 HS.out)) 0).trans rfl, (blk_cell (blkP (Sep.p5 HS.out)) 1).trans rfl⟩ (fun hHeld => ?_)
    clear hK K
    refine nR ?_
    refine pP 8 (some 35) ?_
    refine pP 9 (some 44) ?_
    refine pP 10 (some 45) ?_
    refine pO 12 none (fun K hK => ?_)
    replace HS := aM (Sep.f3 HS.out)
    refine gStS [.int .i64 t200, .slice aa t201.length ab] #[.int .i64 t200, .slice aa t201.length ab] (blkP (Sep.p0 HS.out)) ?_
    intro aG hw hbox; replace HB := aM (hw.below HB.out (Sep.r0 HS.out).1); replace HS := aM (Sep.wr HS.out hw hbox); clear hw hbox
    refine hK.out _ _ ⟨(blk_cell (blkP (Sep.p6 HS.out)) 0).trans rfl, (blk_cell (blkP (Sep.p6 HS.out)) 1).trans rfl, (blk_cell (blkP (Sep.p6 HS.out)) 2).trans rfl, (blk_cell (blkP (Sep.p6 HS.out)) 3).trans rfl, (blk_cell (blkP (Sep.p5 HS.out)) 0).trans rfl, (blk_cell (blkP (Sep.p5 HS.out)) 1).trans rfl⟩ (fun hHeld => ?_)
    clear hK K
    refine pP 13 (some 11) ?_
    replace HS := aM (Sep.f2 HS.out).drop
    replace HS := aM (Sep.f2 HS.out).drop
    replace HS := aM (Sep.f2 HS.out).drop
    replace HS := aM (Sep.f3 HS.out)
    replace HS := aM (Sep.f3 HS.out)
    replace HS := aM (Sep.f3 HS.out)
    replace HS := aM (Sep.f3 HS.out)
    exact laws_FnExactPutPiece.nM (hCont (.agg #[.int .i64 t20, .int .i64 t21, .int .i64 t22, .slice A27 t23.length c28], .agg #[.int .i64 t80, .slice A85 t81.length c86], .slice aq t140.length ao, .tuple #[.agg #[.int .i64 t200, .slice aa t201.length ab], .bool t202], .tuple #[.agg #[.int .i64 t200, .slice aa t201.length ab], .bool t202], .agg #[.int .i64 t200, .slice aa t201.length ab], .bool t202, .pointer (some ⟨az, 0, none⟩), .bool t202) _ ⟨_, _, _, _, _, _, _, _, _, _, _, rfl, HS.out, HB.out⟩)
  ·skip
   refine gBxS 10 #[.int .i64 0, .slice none 0 0] 35 ?_
   intro az hg aE hbox hb; replace HS := aM (Sep.blk HS.out hb HB.out.size hg hbox); replace HB := aM (below_step HB.out hb); clear hb hbox hg
   refine hK.out _ _ ⟨(blk_cell (blkP (Sep.p2 HS.out)) 0).trans rfl, (blk_cell (blkP (Sep.p2 HS.out)) 1).trans rfl, (blk_cell (blkP (Sep.p2 HS.out)) 2).trans rfl, (blk_cell (blkP (Sep.p2 HS.out)) 3).trans rfl, (blk_cell (blkP (Sep.p1 HS.out)) 0).trans rfl, (blk_cell (blkP (Sep.p1 HS.out)) 1).trans rfl⟩ (fun hHeld => ?_)
   clear hK K
   refine nR ?_
   refine pO 1 (some 37) (fun K hK => ?_)
   refine gG Try.func14 #[.agg #[.int .i64 ak, .int .i64 ai, .int .i64 aj, .slice av ag.length ax]] ?_
   refine (laws_toManifest.calls k ak ai aj _ _ ag t20 t21 t22 t23 _ (Kd.C_below al.out.1 HB.out) al.out.2 A24.out).mono ?_
   rintro e w25 ⟨v26, rfl, ho0, hb⟩; refine ⟨_, rfl, ?_⟩
   obtain ⟨A27, c28, hz⟩ := Kd.R_slice ho0; subst hz
   replace HS := aM (Sep.row HS.out hb HB.out.size ho0)
   replace HB := aM (below_step HB.out hb)
   clear ho0 hb
   refine hK.out _ _ ⟨(blk_cell (blkP (Sep.p3 HS.out)) 0).trans rfl, (blk_cell (blkP (Sep.p3 HS.out)) 1).trans rfl, (blk_cell (blkP (Sep.p3 HS.out)) 2).trans rfl, (blk_cell (blkP (Sep.p3 HS.out)) 3).trans rfl, (blk_cell (blkP (Sep.p2 HS.out)) 0).trans rfl, (blk_cell (blkP (Sep.p2 HS.out)) 1).trans rfl⟩ (fun hHeld => ?_)
   clear hK K
   refine nR ?_
   refine pO 3 (some 39) (fun K hK => ?_)
   refine gG Try.func15 #[.agg #[.int .i64 af, .slice am ae.length an]] ?_
   refine (laws_toBuild.calls k af _ _ ae t80 t81 _ (Kd.C_below ah.out.1 HB.out) ah.out.2 A82.out).mono ?_
   rintro e w83 ⟨v84, rfl, ho0, hb⟩; refine ⟨_, rfl, ?_⟩
   obtain ⟨A85, c86, hz⟩ := Kd.R_slice ho0; subst hz
   replace HS := aM (Sep.row HS.out hb HB.out.size ho0)
   replace HB := aM (below_step HB.out hb)
   clear ho0 hb
   refine hK.out _ _ ⟨(blk_cell (blkP (Sep.p4 HS.out)) 0).trans rfl, (blk_cell (blkP (Sep.p4 HS.out)) 1).trans rfl, (blk_cell (blkP (Sep.p4 HS.out)) 2).trans rfl, (blk_cell (blkP (Sep.p4 HS.out)) 3).trans rfl, (blk_cell (blkP (Sep.p3 HS.out)) 0).trans rfl, (blk_cell (blkP (Sep.p3 HS.out)) 1).trans rfl⟩ (fun hHeld => ?_)
   clear hK K
   refine nR ?_
   refine pO 6 (some 42) (fun K hK => ?_)
   refine gG Try.func25 #[.slice A3 l3.length c3] ?_
   refine (laws_toByteS.calls k _ _ l3 t140 _ (Kd.C_below HR3.out.1 HB.out) HR3.out.2 A141.out).mono ?_
   rintro e aK ⟨aL, rfl, ho0, hb⟩; refine ⟨_, rfl, ?_⟩
   obtain ⟨aq, ao, hz⟩ := Kd.R_slice ho0; subst hz
   replace HS := aM (Sep.row HS.out hb HB.out.size ho0)
   replace HB := aM (below_step HB.out hb)
   clear ho0 hb
   refine hK.out _ _ ⟨(blk_cell (blkP (Sep.p5 HS.out)) 0).trans rfl, (blk_cell (blkP (Sep.p5 HS.out)) 1).trans rfl, (blk_cell (blkP (Sep.p5 HS.out)) 2).trans rfl, (blk_cell (blkP (Sep.p5 HS.out)) 3).trans rfl, (blk_cell (blkP (Sep.p4 HS.out)) 0).trans rfl, (blk_cell (blkP (Sep.p4 HS.out)) 1).trans rfl⟩ (fun hHeld => ?_)
   clear hK K
   refine nR ?_
   refine pO 7 (some 43) (fun K hK => ?_)
   refine gG Try.func36 #[.agg #[.int .i64 t20, .int .i64 t21, .int .i64 t22, .slice A27 t23.length c28], .agg #[.int .i64 t80, .slice A85 t81.length c86], .int .i64 a2, .slice aq t140.length ao] ?_
   refine (spec_PutPiece.calls k t20 t21 t22 _ _ t23 t80 _ _ t81 a2 _ _ t140 t200 t201 t202 _ (rowC (Sep.p2 HS.out)) (rowL (Sep.p2 HS.out)) (rowC (Sep.p1 HS.out)) (rowL (Sep.p1 HS.out)) (rowC (Sep.p0 HS.out)) (rowL (Sep.p0 HS.out)) A203.out).mono ?_
   rintro e aH ⟨aJ, rfl, ho0, hb⟩; refine ⟨_, rfl, ?_⟩
   obtain ⟨aa, ab, hz⟩ := Kd.R_slice ho0; subst hz
   replace HS := aM (Sep.row HS.out hb HB.out.size ho0)
   replace HB := aM (below_step HB.out hb)
   clear ho0 hb
   refine hK.out _ _ ⟨(blk_cell (blkP (Sep.p6 HS.out)) 0).trans rfl, (blk_cell (blkP (Sep.p6 HS.out)) 1).trans rfl, (blk_cell (blkP (Sep.p6 HS.out)) 2).trans rfl, (blk_cell (blkP (Sep.p6 HS.out)) 3).trans rfl, (blk_cell (blkP (Sep.p5 HS.out)) 0).trans rfl, (blk_cell (blkP (Sep.p5 HS.out)) 1).trans rfl⟩ (fun hHeld => ?_)
   clear hK K
   refine nR ?_
   refine pP 8 (some 35) ?_
   refine pP 9 (some 44) ?_
   refine pP 10 (some 45) ?_
   refine pO 12 none (fun K hK => ?_)
   replace HS := aM (Sep.f4 HS.out)
   refine gStS [.int .i64 t200, .slice aa t201.length ab] #[.int .i64 t200, .slice aa t201.length ab] (blkP (Sep.p0 HS.out)) ?_
   intro aG hw hbox; replace HB := aM (hw.below HB.out (Sep.r0 HS.out).1); replace HS := aM (Sep.wr HS.out hw hbox); clear hw hbox
   refine hK.out _ _ ⟨(blk_cell (blkP (Sep.p6 HS.out)) 0).trans rfl, (blk_cell (blkP (Sep.p6 HS.out)) 1).trans rfl, (blk_cell (blkP (Sep.p6 HS.out)) 2).trans rfl, (blk_cell (blkP (Sep.p6 HS.out)) 3).trans rfl, (blk_cell (blkP (Sep.p5 HS.out)) 0).trans rfl, (blk_cell (blkP (Sep.p5 HS.out)) 1).trans rfl⟩ (fun hHeld => ?_)
   clear hK K
   refine pP 13 (some 11) ?_
   replace HS := aM (Sep.f2 HS.out).drop
   replace HS := aM (Sep.f2 HS.out).drop
   replace HS := aM (Sep.f2 HS.out).drop
   replace HS := aM (Sep.f3 HS.out)
   replace HS := aM (Sep.f3 HS.out)
   replace HS := aM (Sep.f3 HS.out)
   replace HS := aM (Sep.f3 HS.out)
   exact laws_FnExactPutPiece.nM (hCont (.agg #[.int .i64 t20, .int .i64 t21, .int .i64 t22, .slice A27 t23.length c28], .agg #[.int .i64 t80, .slice A85 t81.length c86], .slice aq t140.length ao, .tuple #[.agg #[.int .i64 t200, .slice aa t201.length ab], .bool t202], .tuple #[.agg #[.int .i64 t200, .slice aa t201.length ab], .bool t202], .agg #[.int .i64 t200, .slice aa t201.length ab], .bool t202, .pointer (some ⟨az, 0, none⟩), .bool t202) _ ⟨_, _, _, _, _, _, _, _, _, _, _, rfl, HS.out, HB.out⟩)
 rintro _ w381 ⟨az, aN, aO, A27, c28, A85, c86, aq, ao, aa, ab, rfl, hs_, hb_⟩
 replace HS := aM hs_
 replace HB := aM hb_
 clear hs_ hb_ hHeld
 refine norm_ (a' := ?_) ?_ ?_
 rotate_left
 ·simp only [putAll, Act.put, List.setIfInBounds_toArray, List.set_cons_zero, List.set_cons_succ]
  rfl
 refine done_ (by kernel_rfl) ?_
 replace h := bE h; obtain ⟨⟨t383, t384, t385, t386⟩, A387, h⟩ := h
 dsimp only at h
 replace h := bE h; obtain ⟨⟨t398, t399⟩, A400, h⟩ := h
 dsimp only at h
 replace h := bE h; obtain ⟨t411, A412, h⟩ := h
 replace h := bE h; obtain ⟨⟨t419, t420, t421⟩, A422, h⟩ := h
 dsimp only at h
 replace h := bE h; obtain ⟨t433, A434, h⟩ := h
 replace h := ifN h; obtain ⟨hq, h⟩ := h
 subst hq
 replace h := ifN h; obtain ⟨c436, h⟩ := h
 have c436b : (t421 == t202) = true := by rw [c436]; simp
 replace h := bE h; obtain ⟨⟨t439, t440, t441, t442⟩, A443, h⟩ := h
 dsimp only at h
 replace h := bE h; obtain ⟨t450, A451, h⟩ := h
 replace h := ifN h; obtain ⟨hq, h⟩ := h
 subst hq
 go_wp2_with (first | ((with_reducible refine gate_dst (N := 46) rfl ?_); refine gLd 46 (blkP (Sep.p3 HS.out)) ?_; (simp only [Act.put, List.setIfInBounds_toArray, List.set_cons_zero, List.set_cons_succ])) | ((with_reducible refine gate_callee (f := 14) rfl ?_); (with_reducible refine gate_dst (N := 47) rfl ?_); refine gL (some 47) Try.func14 #[.agg #[.int .i64 ak, .int .i64 ai, .int .i64 aj, .slice av ag.length ax]] ?_; refine (laws_toManifest.calls k ak ai aj _ _ ag t383 t384 t385 t386 _ (Kd.C_below al.out.1 HB.out) al.out.2 A387.out).mono ?_; rintro e w388 ⟨v389, rfl, ho0, hb⟩; refine ⟨_, rfl, ?_⟩; obtain ⟨A390, c391, hz⟩ := Kd.R_slice ho0; subst hz; replace HS := aM (Sep.row HS.out hb HB.out.size ho0); replace HB := aM (below_step HB.out hb); clear ho0 hb; (simp only [Act.put, List.setIfInBounds_toArray, List.set_cons_zero, List.set_cons_succ])) | ((with_reducible refine gate_dst (N := 12) rfl ?_); refine gBx 12 #[.int .i64 0, .int .i64 0, .int .i64 0, .slice none 0 0] 33 ?_; intro g393 hg w394 hbox hb; replace HS := aM (Sep.blk HS.out hb HB.out.size hg hbox); replace HB := aM (below_step HB.out hb); clear hb hbox hg; (simp only [Act.put, List.setIfInBounds_toArray, List.set_cons_zero, List.set_cons_succ])) | ((with_reducible refine gate_store (t := 33) (p := 12) rfl ?_); refine gSt [.int .i64 t383, .int .i64 t384, .int .i64 t385, .slice A390 t386.length c391] #[.int .i64 t383, .int .i64 t384, .int .i64 t385, .slice A390 t386.length c391] (blkP (Sep.p0 HS.out)) ?_; intro w396 hw hbox; replace HB := aM (hw.below HB.out (Sep.r0 HS.out).1); replace HS := aM (Sep.wr HS.out hw hbox); clear hw hbox) | ((with_reducible refine gate_dst (N := 48) rfl ?_); refine gLd 48 (blkP (Sep.p4 HS.out)) ?_; (simp only [Act.put, List.setIfInBounds_toArray, List.set_cons_zero, List.set_cons_succ])) | ((with_reducible refine gate_callee (f := 15) rfl ?_); (with_reducible refine gate_dst (N := 49) rfl ?_); refine gL (some 49) Try.func15 #[.agg #[.int .i64 af, .slice am ae.length an]] ?_; refine (laws_toBuild.calls k af _ _ ae t398 t399 _ (Kd.C_below ah.out.1 HB.out) ah.out.2 A400.out).mono ?_; rintro e w401 ⟨v402, rfl, ho0, hb⟩; refine ⟨_, rfl, ?_⟩; obtain ⟨A403, c404, hz⟩ := Kd.R_slice ho0; subst hz; replace HS := aM (Sep.row HS.out hb HB.out.size ho0); replace HB := aM (below_step HB.out hb); clear ho0 hb; (simp only [Act.put, List.setIfInBounds_toArray, List.set_cons_zero, List.set_cons_succ])) | ((with_reducible refine gate_dst (N := 13) rfl ?_); refine gBx 13 #[.int .i64 0, .slice none 0 0] 35 ?_; intro g406 hg w407 hbox hb; replace HS := aM (Sep.blk HS.out hb HB.out.size hg hbox); replace HB := aM (below_step HB.out hb); clear hb hbox hg; (simp only [Act.put, List.setIfInBounds_toArray, List.set_cons_zero, List.set_cons_succ])) | ((with_reducible refine gate_store (t := 35) (p := 13) rfl ?_); refine gSt [.int .i64 t398, .slice A403 t399.length c404] #[.int .i64 t398, .slice A403 t399.length c404] (blkP (Sep.p0 HS.out)) ?_; intro w409 hw hbox; replace HB := aM (hw.below HB.out (Sep.r0 HS.out).1); replace HS := aM (Sep.wr HS.out hw hbox); clear hw hbox) | ((with_reducible refine gate_callee (f := 25) rfl ?_); (with_reducible refine gate_dst (N := 51) rfl ?_); refine gL (some 51) Try.func25 #[.slice A3 l3.length c3] ?_; refine (laws_toByteS.calls k _ _ l3 t411 _ (Kd.C_below HR3.out.1 HB.out) HR3.out.2 A412.out).mono ?_; rintro e w413 ⟨v414, rfl, ho0, hb⟩; refine ⟨_, rfl, ?_⟩; obtain ⟨A415, c416, hz⟩ := Kd.R_slice ho0; subst hz; replace HS := aM (Sep.row HS.out hb HB.out.size ho0); replace HB := aM (below_step HB.out hb); clear ho0 hb; (simp only [Act.put, List.setIfInBounds_toArray, List.set_cons_zero, List.set_cons_succ])) | ((with_reducible refine gate_dst (N := 53) rfl ?_); refine gLd 53 (blkP (Sep.p3 HS.out)) ?_; (simp only [Act.put, List.setIfInBounds_toArray, List.set_cons_zero, List.set_cons_succ])) | ((with_reducible refine gate_dst (N := 54) rfl ?_); refine gLd 54 (blkP (Sep.p1 HS.out)) ?_; (simp only [Act.put, List.setIfInBounds_toArray, List.set_cons_zero, List.set_cons_succ])) | ((with_reducible refine gate_callee (f := 37) rfl ?_); (with_reducible refine gate_dst (N := 57) rfl ?_); refine gL (some 57) Try.func37 #[.agg #[.int .i64 t383, .int .i64 t384, .int .i64 t385, .slice A390 t386.length c391], .agg #[.int .i64 t398, .slice A403 t399.length c404], .int .i64 a2, .slice A415 t411.length c416] ?_; refine (impl_PutPiece.calls k t383 t384 t385 _ _ t386 t398 _ _ t399 a2 _ _ t411 t419 t420 t421 _ (rowC (Sep.p4 HS.out)) (rowL (Sep.p4 HS.out)) (rowC (Sep.p2 HS.out)) (rowL (Sep.p2 HS.out)) (rowC (Sep.p0 HS.out)) (rowL (Sep.p0 HS.out)) A422.out).mono ?_; rintro e w423 ⟨v424, rfl, ho0, hb⟩; refine ⟨_, rfl, ?_⟩; obtain ⟨A425, c426, hz⟩ := Kd.R_slice ho0; subst hz; replace HS := aM (Sep.row HS.out hb HB.out.size ho0); replace HB := aM (below_step HB.out hb); clear ho0 hb; (simp only [Act.put, List.setIfInBounds_toArray, List.set_cons_zero, List.set_cons_succ])) | ((with_reducible refine gate_dst (N := 15) rfl ?_); refine gBx 15 #[.int .i64 0, .slice none 0 0] 35 ?_; intro g428 hg w429 hbox hb; replace HS := aM (Sep.blk HS.out hb HB.out.size hg hbox); replace HB := aM (below_step HB.out hb); clear hb hbox hg; (simp only [Act.put, List.setIfInBounds_toArray, List.set_cons_zero, List.set_cons_succ])) | ((with_reducible refine gate_store (t := 35) (p := 15) rfl ?_); refine gSt [.int .i64 t419, .slice A425 t420.length c426] #[.int .i64 t419, .slice A425 t420.length c426] (blkP (Sep.p0 HS.out)) ?_; intro w431 hw hbox; replace HB := aM (hw.below HB.out (Sep.r0 HS.out).1); replace HS := aM (Sep.wr HS.out hw hbox); clear hw hbox) | ((with_reducible refine gate_dst (N := 60) rfl ?_); refine gLd 60 (blkP (Sep.p0 HS.out)) ?_; (simp only [Act.put, List.setIfInBounds_toArray, List.set_cons_zero, List.set_cons_succ])) | ((with_reducible refine gate_dst (N := 61) rfl ?_); refine gLd 61 (blkP (Sep.p7 HS.out)) ?_; (simp only [Act.put, List.setIfInBounds_toArray, List.set_cons_zero, List.set_cons_succ])) | ((with_reducible refine gate_callee (f := 18) rfl ?_); (with_reducible refine gate_dst (N := 62) rfl ?_); refine gL (some 62) Try.func18 #[.agg #[.int .i64 t419, .slice A425 t420.length c426], .agg #[.int .i64 t200, .slice aa t201.length ab]] ?_; refine (laws_eqBuild.calls k t419 _ _ t420 t200 _ _ t201 true _ (rowC (Sep.p1 HS.out)) (rowL (Sep.p1 HS.out)) (rowC (Sep.p8 HS.out)) (rowL (Sep.p8 HS.out)) A434.out).mono ?_; rintro e w435 ⟨rfl, hb⟩; refine ⟨_, rfl, ?_⟩; replace HS := aM (HS.out.below hb); replace HB := aM (below_step HB.out hb); clear hb; (simp only [Act.put, List.setIfInBounds_toArray, List.set_cons_zero, List.set_cons_succ])))
 replace HS := aM (HS.out.below (bd1 rfl))
 replace HB := aM (below_step HB.out (bd1 rfl))
 refine start_ (n := 5) (S := fun w' => w'.cell? ⟨g393, 0, none⟩ = some (.int .i64 t383) ∧ w'.cell? ⟨g393, 1, none⟩ = some (.int .i64 t384) ∧ w'.cell? ⟨g393, 2, none⟩ = some (.int .i64 t385) ∧ w'.cell? ⟨g393, 3, none⟩ = some (.slice A390 t386.length c391) ∧ w'.cell? ⟨g1, 0, none⟩ = some (.int .i64 ak) ∧ w'.cell? ⟨g1, 1, none⟩ = some (.int .i64 ai) ∧ w'.cell? ⟨g1, 2, none⟩ = some (.int .i64 aj) ∧ w'.cell? ⟨g1, 3, none⟩ = some (.slice av ag.length ax)) (ds := []) (Array.replicate 5 false) (by kernel_rfl) rfl rfl ⟨(blk_cell (blkP (Sep.p5 HS.out)) 0).trans rfl, (blk_cell (blkP (Sep.p5 HS.out)) 1).trans rfl, (blk_cell (blkP (Sep.p5 HS.out)) 2).trans rfl, (blk_cell (blkP (Sep.p5 HS.out)) 3).trans rfl, (blk_cell (blkP (Sep.p10 HS.out)) 0).trans rfl, (blk_cell (blkP (Sep.p10 HS.out)) 1).trans rfl, (blk_cell (blkP (Sep.p10 HS.out)) 2).trans rfl, (blk_cell (blkP (Sep.p10 HS.out)) 3).trans rfl⟩ (fun hHeld => ?_)
 generalize hw_ : World.drew _ = w437 at HS HB hHeld ⊢
 clear hw_
 refine pT 0 (some 69) ?_
 refine pT 1 (some 70) ?_
 refine pO 2 (some 71) (fun K hK => ?_)
 refine gG Try.func14 #[.agg #[.int .i64 ak, .int .i64 ai, .int .i64 aj, .slice av ag.length ax]] ?_
 refine (laws_toManifest.calls k ak ai aj _ _ ag t439 t440 t441 t442 _ (Kd.C_below al.out.1 HB.out) al.out.2 A443.out).mono ?_
 rintro e w444 ⟨v445, rfl, ho0, hb⟩; refine ⟨_, rfl, ?_⟩
 obtain ⟨A446, c447, hz⟩ := Kd.R_slice ho0; subst hz
 replace HS := aM (Sep.row HS.out hb HB.out.size ho0)
 replace HB := aM (below_step HB.out hb)
 clear ho0 hb
 refine hK.out _ _ ⟨(blk_cell (blkP (Sep.p6 HS.out)) 0).trans rfl, (blk_cell (blkP (Sep.p6 HS.out)) 1).trans rfl, (blk_cell (blkP (Sep.p6 HS.out)) 2).trans rfl, (blk_cell (blkP (Sep.p6 HS.out)) 3).trans rfl, (blk_cell (blkP (Sep.p11 HS.out)) 0).trans rfl, (blk_cell (blkP (Sep.p11 HS.out)) 1).trans rfl, (blk_cell (blkP (Sep.p11 HS.out)) 2).trans rfl, (blk_cell (blkP (Sep.p11 HS.out)) 3).trans rfl⟩ (fun hHeld => ?_)
 clear hK K
 refine nR ?_
 refine pO 3 (some 72) (fun K hK => ?_)
 refine gG Try.func17 #[.agg #[.int .i64 t383, .int .i64 t384, .int .i64 t385, .slice A390 t386.length c391], .agg #[.int .i64 t439, .int .i64 t440, .int .i64 t441, .slice A446 t442.length c447]] ?_
 refine (laws_eqManifest.calls k t383 t384 t385 _ _ t386 t439 t440 t441 _ _ t442 true _ (rowC (Sep.p7 HS.out)) (rowL (Sep.p7 HS.out)) (rowC (Sep.p0 HS.out)) (rowL (Sep.p0 HS.out)) A451.out).mono ?_
 rintro e w452 ⟨rfl, hb⟩; refine ⟨_, rfl, ?_⟩
 replace HS := aM (HS.out.below hb)
 replace HB := aM (below_step HB.out hb)
 clear hb
 refine hK.out _ _ ⟨(blk_cell (blkP (Sep.p6 HS.out)) 0).trans rfl, (blk_cell (blkP (Sep.p6 HS.out)) 1).trans rfl, (blk_cell (blkP (Sep.p6 HS.out)) 2).trans rfl, (blk_cell (blkP (Sep.p6 HS.out)) 3).trans rfl, (blk_cell (blkP (Sep.p11 HS.out)) 0).trans rfl, (blk_cell (blkP (Sep.p11 HS.out)) 1).trans rfl, (blk_cell (blkP (Sep.p11 HS.out)) 2).trans rfl, (blk_cell (blkP (Sep.p11 HS.out)) 3).trans rfl⟩ (fun hHeld => ?_)
 clear hK K
 refine nR ?_
 refine pP 4 (some 73) ?_
 refine done_ (by kernel_rfl) ?_
 replace h := bE h; obtain ⟨⟨t455, t456⟩, A457, h⟩ := h
 dsimp only at h
 replace h := bE h; obtain ⟨t464, A465, h⟩ := h
 replace h := ifN h; obtain ⟨hq, h⟩ := h
 subst hq
 go_wp2_with (first | fail)
 replace HS := aM (HS.out.below (bd1 rfl))
 replace HB := aM (below_step HB.out (bd1 rfl))
 refine start_ (n := 5) (S := fun w' => w'.cell? ⟨g406, 0, none⟩ = some (.int .i64 t398) ∧ w'.cell? ⟨g406, 1, none⟩ = some (.slice A403 t399.length c404) ∧ w'.cell? ⟨g4, 0, none⟩ = some (.int .i64 af) ∧ w'.cell? ⟨g4, 1, none⟩ = some (.slice am ae.length an)) (ds := []) (Array.replicate 5 false) (by kernel_rfl) rfl rfl ⟨(blk_cell (blkP (Sep.p4 HS.out)) 0).trans rfl, (blk_cell (blkP (Sep.p4 HS.out)) 1).trans rfl, (blk_cell (blkP (Sep.p10 HS.out)) 0).trans rfl, (blk_cell (blkP (Sep.p10 HS.out)) 1).trans rfl⟩ (fun hHeld => ?_)
 generalize hw_ : World.drew _ = w453 at HS HB hHeld ⊢
 clear hw_
 refine pT 0 (some 74) ?_
 refine pT 1 (some 75) ?_
 refine pO 2 (some 76) (fun K hK => ?_)
 refine gG Try.func15 #[.agg #[.int .i64 af, .slice am ae.length an]] ?_
 refine (laws_toBuild.calls k af _ _ ae t455 t456 _ (Kd.C_below ah.out.1 HB.out) ah.out.2 A457.out).mono ?_
 rintro e w458 ⟨v459, rfl, ho0, hb⟩; refine ⟨_, rfl, ?_⟩
 obtain ⟨A460, c461, hz⟩ := Kd.R_slice ho0; subst hz
 replace HS := aM (Sep.row HS.out hb HB.out.size ho0)
 replace HB := aM (below_step HB.out hb)
 clear ho0 hb
 refine hK.out _ _ ⟨(blk_cell (blkP (Sep.p5 HS.out)) 0).trans rfl, (blk_cell (blkP (Sep.p5 HS.out)) 1).trans rfl, (blk_cell (blkP (Sep.p11 HS.out)) 0).trans rfl, (blk_cell (blkP (Sep.p11 HS.out)) 1).trans rfl⟩ (fun hHeld => ?_)
 clear hK K
 refine nR ?_
 refine pO 3 (some 77) (fun K hK => ?_)
 refine gG Try.func18 #[.agg #[.int .i64 t398, .slice A403 t399.length c404], .agg #[.int .i64 t455, .slice A460 t456.length c461]] ?_
 refine (laws_eqBuild.calls k t398 _ _ t399 t455 _ _ t456 true _ (rowC (Sep.p6 HS.out)) (rowL (Sep.p6 HS.out)) (rowC (Sep.p0 HS.out)) (rowL (Sep.p0 HS.out)) A465.out).mono ?_
 rintro e w466 ⟨rfl, hb⟩; refine ⟨_, rfl, ?_⟩
 replace HS := aM (HS.out.below hb)
 replace HB := aM (below_step HB.out hb)
 clear hb
 refine hK.out _ _ ⟨(blk_cell (blkP (Sep.p5 HS.out)) 0).trans rfl, (blk_cell (blkP (Sep.p5 HS.out)) 1).trans rfl, (blk_cell (blkP (Sep.p11 HS.out)) 0).trans rfl, (blk_cell (blkP (Sep.p11 HS.out)) 1).trans rfl⟩ (fun hHeld => ?_)
 clear hK K
 refine nR ?_
 refine pP 4 (some 78) ?_
 refine done_ (by kernel_rfl) ?_
 replace h := bE h; obtain ⟨t468, A469, h⟩ := h
 replace h := bE h; obtain ⟨t476, A477, h⟩ := h
 replace h := ifN h; obtain ⟨hq, h⟩ := h
 subst hq
 replace h := bE h; obtain ⟨⟨t480, t481⟩, A482, h⟩ := h
 dsimp only at h
 replace h := bE h; obtain ⟨⟨t485, t486⟩, A487, h⟩ := h
 dsimp only at h
 replace h := bE h; obtain ⟨⟨t490, t491⟩, A492, h⟩ := h
 dsimp only at h
 replace h := ifM h; obtain ⟨c494, h⟩ := h
 have c494b : decide (t490 < 0) = false := decide_eq_false c494
 clear c494
 replace h := bE h; obtain ⟨t496, A497, h⟩ := h
 replace h := ifN h; obtain ⟨hq, h⟩ := h
 subst hq
 replace h := ifN h; obtain ⟨c499, h⟩ := h
 have c499b : (t421 == t202) = true := by rw [c499]; simp
 replace h := bE h; obtain ⟨⟨t501, t502⟩, A503, h⟩ := h
 dsimp only at h
 replace h := bE h; obtain ⟨t506, A507, h⟩ := h
 replace h := ifM h; obtain ⟨c509, h⟩ := h
 have c509b : decide (t506 < 0) = false := decide_eq_false c509
 clear c509
 replace h := ifN h; obtain ⟨c510, h⟩ := h
 have c510b : (t506 != t501) = false := bne_eq_false_iff_eq.mpr c510
 clear c510
 replace h := bE h; obtain ⟨⟨t513, t514, t515, t516⟩, A517, h⟩ := h
 dsimp only at h
 replace h := bE h; obtain ⟨⟨t573, t574⟩, A575, h⟩ := h
 dsimp only at h
 replace h := bE h; obtain ⟨t633, A634, h⟩ := h
 replace h := bE h; obtain ⟨⟨t693, t694, t695⟩, A696, h⟩ := h
 dsimp only at h
 go_wp2_with (first | ((with_reducible refine gate_callee (f := 25) rfl ?_); (with_reducible refine gate_dst (N := 81) rfl ?_); refine gL (some 81) Try.func25 #[.slice A3 l3.length c3] ?_; refine (laws_toByteS.calls k _ _ l3 t468 _ (Kd.C_below HR3.out.1 HB.out) HR3.out.2 A469.out).mono ?_; rintro e w470 ⟨v471, rfl, ho0, hb⟩; refine ⟨_, rfl, ?_⟩; obtain ⟨A472, c473, hz⟩ := Kd.R_slice ho0; subst hz; replace HS := aM (Sep.row HS.out hb HB.out.size ho0); replace HB := aM (below_step HB.out hb); clear ho0 hb; (simp only [Act.put, List.setIfInBounds_toArray, List.set_cons_zero, List.set_cons_succ])) | ((with_reducible refine gate_callee (f := 27) rfl ?_); (with_reducible refine gate_dst (N := 82) rfl ?_); refine gL (some 82) Try.func27 #[.slice A415 t411.length c416, .slice A472 t468.length c473] ?_; refine (laws_eqByteS.calls k _ _ t411 _ _ t468 true _ (rowC (Sep.p5 HS.out)) (rowL (Sep.p5 HS.out)) (rowC (Sep.p0 HS.out)) (rowL (Sep.p0 HS.out)) A477.out).mono ?_; rintro e w478 ⟨rfl, hd⟩; have hb := hd.below; clear hd; refine ⟨_, rfl, ?_⟩; replace HS := aM (HS.out.below hb); replace HB := aM (below_step HB.out hb); clear hb; (simp only [Act.put, List.setIfInBounds_toArray, List.set_cons_zero, List.set_cons_succ])) | ((with_reducible refine gate_dst (N := 84) rfl ?_); refine gLd 84 (blkP (Sep.p8 HS.out)) ?_; (simp only [Act.put, List.setIfInBounds_toArray, List.set_cons_zero, List.set_cons_succ])) | ((with_reducible refine gate_callee (f := 21) rfl ?_); (with_reducible refine gate_dst (N := 86) rfl ?_); refine gL (some 86) Try.func21 #[.agg #[.int .i64 t383, .int .i64 t384, .int .i64 t385, .slice A390 t386.length c391], .int .i64 1] ?_; replace HS := aM (Sep.f9 HS.out); refine (laws_markManifest.calls k t383 t384 t385 _ _ t386 1 t480 t481 w _ HB.out (Sep.p0 HS.out) A482.out).mono ?_; rintro e w483 ⟨rfl, hd, hb, hk⟩; refine ⟨_, rfl, ?_⟩; replace HS := aM (Sep.put HS.out (KeptR.of_kept hk (fun _ q => q)) (iRow k72 72 _ _ _ _ t481) rfl rfl (Kd.R_reok rfl hd (fun k e => (Sep.p0 HS.out).1 k e))); replace HB := aM hb; have e0 := (Kd.R_reads' hd).1; clear hd hb hk; simp only [e0] at HS ⊢; clear e0; (simp only [Act.put, List.setIfInBounds_toArray, List.set_cons_zero, List.set_cons_succ])) | ((with_reducible refine gate_dst (N := 87) rfl ?_); refine gLd 87 (blkP (Sep.p7 HS.out)) ?_; (simp only [Act.put, List.setIfInBounds_toArray, List.set_cons_zero, List.set_cons_succ])) | ((with_reducible refine gate_callee (f := 22) rfl ?_); (with_reducible refine gate_dst (N := 89) rfl ?_); refine gL (some 89) Try.func22 #[.agg #[.int .i64 t398, .slice A403 t399.length c404], .int .i64 t480] ?_; replace HS := aM (Sep.f8 HS.out); refine (laws_markBuild.calls k t398 _ _ t399 t480 t485 t486 w _ HB.out (Sep.p0 HS.out) A487.out).mono ?_; rintro e w488 ⟨rfl, hd, hb, hk⟩; refine ⟨_, rfl, ?_⟩; replace HS := aM (Sep.put HS.out (KeptR.of_kept hk (fun _ q => q)) (iRow (Kd.int .u8) 5 _ _ _ _ t486) rfl rfl (Kd.R_reok rfl hd (fun k e => (Sep.p0 HS.out).1 k e))); replace HB := aM hb; have e0 := (Kd.R_reads' hd).1; clear hd hb hk; simp only [e0] at HS ⊢; clear e0; (simp only [Act.put, List.setIfInBounds_toArray, List.set_cons_zero, List.set_cons_succ])) | ((with_reducible refine gate_callee (f := 34) rfl ?_); (with_reducible refine gate_dst (N := 92) rfl ?_); refine gL (some 92) Try.func34 #[.slice A415 t411.length c416, .int .i64 t485] ?_; replace HS := aM (Sep.f7 HS.out); refine (laws_markByteS.calls k _ _ t411 t485 t490 t491 w _ HB.out (Sep.p0 HS.out) A492.out).mono ?_; rintro e w493 ⟨rfl, hd, hb, hk⟩; refine ⟨_, rfl, ?_⟩; replace HS := aM (Sep.put HS.out (KeptR.of_kept hk (fun _ q => q)) (iRow (Kd.int .u8) 5 _ _ _ _ t491) rfl rfl (Kd.R_reok rfl hd (fun k e => (Sep.p0 HS.out).1 k e))); replace HB := aM hb; have e0 := (Kd.R_reads' hd).1; clear hd hb hk; simp only [e0] at HS ⊢; clear e0; (simp only [Act.put, List.setIfInBounds_toArray, List.set_cons_zero, List.set_cons_succ])) | ((with_reducible refine gate_dst (N := 96) rfl ?_); refine gGd rfl ?_; refine gLd 96 (blkP (Sep.p6 HS.out)) ?_; (simp only [Act.put, List.setIfInBounds_toArray, List.set_cons_zero, List.set_cons_succ])) | ((with_reducible refine gate_dst (N := 97) rfl ?_); refine gGd rfl ?_; refine gLd 97 (blkP (Sep.p10 HS.out)) ?_; (simp only [Act.put, List.setIfInBounds_toArray, List.set_cons_zero, List.set_cons_succ])) | ((with_reducible refine gate_callee (f := 18) rfl ?_); (with_reducible refine gate_dst (N := 98) rfl ?_); refine gGd rfl ?_; refine gL (some 98) Try.func18 #[.agg #[.int .i64 t419, .slice A425 t420.length c426], .agg #[.int .i64 t200, .slice aa t201.length ab]] ?_; refine (laws_eqBuild.calls k t419 _ _ t420 t200 _ _ t201 true _ (rowC (Sep.p7 HS.out)) (rowL (Sep.p7 HS.out)) (rowC (Sep.p11 HS.out)) (rowL (Sep.p11 HS.out)) A497.out).mono ?_; rintro e w498 ⟨rfl, hb⟩; refine ⟨_, rfl, ?_⟩; replace HS := aM (HS.out.below hb); replace HB := aM (below_step HB.out hb); clear hb; (simp only [Act.put, List.setIfInBounds_toArray, List.set_cons_zero, List.set_cons_succ])) | ((with_reducible refine gate_dst (N := 106) rfl ?_); refine gLd 106 (blkP (Sep.p6 HS.out)) ?_; (simp only [Act.put, List.setIfInBounds_toArray, List.set_cons_zero, List.set_cons_succ])) | ((with_reducible refine gate_callee (f := 22) rfl ?_); (with_reducible refine gate_dst (N := 108) rfl ?_); refine gL (some 108) Try.func22 #[.agg #[.int .i64 t419, .slice A425 t420.length c426], .int .i64 1] ?_; replace HS := aM (Sep.f7 HS.out); refine (laws_markBuild.calls k t419 _ _ t420 1 t501 t502 w _ HB.out (Sep.p0 HS.out) A503.out).mono ?_; rintro e w504 ⟨rfl, hd, hb, hk⟩; refine ⟨_, rfl, ?_⟩; replace HS := aM (Sep.put HS.out (KeptR.of_kept hk (fun _ q => q)) (iRow (Kd.int .u8) 5 _ _ _ _ t502) rfl rfl (Kd.R_reok rfl hd (fun k e => (Sep.p0 HS.out).1 k e))); replace HB := aM hb; have e0 := (Kd.R_reads' hd).1; clear hd hb hk; simp only [e0] at HS ⊢; clear e0; (simp only [Act.put, List.setIfInBounds_toArray, List.set_cons_zero, List.set_cons_succ])) | ((with_reducible refine gate_dst (N := 109) rfl ?_); refine gLd 109 (blkP (Sep.p7 HS.out)) ?_; (simp only [Act.put, List.setIfInBounds_toArray, List.set_cons_zero, List.set_cons_succ])) | ((with_reducible refine gate_callee (f := 23) rfl ?_); (with_reducible refine gate_dst (N := 111) rfl ?_); refine gL (some 111) Try.func23 #[.agg #[.int .i64 t419, .slice A425 t502.length c426], .int .i64 1] ?_; refine (laws_heldBuild.calls k t419 _ _ t502 1 t506 _ (rowC (Sep.p0 HS.out)) (rowL (Sep.p0 HS.out)) A507.out).mono ?_; rintro e w508 ⟨rfl, hb⟩; refine ⟨_, rfl, ?_⟩; replace HS := aM (HS.out.below hb); replace HB := aM (below_step HB.out hb); clear hb; (simp only [Act.put, List.setIfInBounds_toArray, List.set_cons_zero, List.set_cons_succ])))
 replace HS := aM (HS.out.below (bd1 rfl))
 replace HB := aM (below_step HB.out (bd1 rfl))
 refine start_ (n := 14) (S := fun w' => w'.cell? ⟨g1, 0, none⟩ = some (.int .i64 ak) ∧ w'.cell? ⟨g1, 1, none⟩ = some (.int .i64 ai) ∧ w'.cell? ⟨g1, 2, none⟩ = some (.int .i64 aj) ∧ w'.cell? ⟨g1, 3, none⟩ = some (.slice av ag.length ax) ∧ w'.cell? ⟨g4, 0, none⟩ = some (.int .i64 af) ∧ w'.cell? ⟨g4, 1, none⟩ = some (.slice am ae.length an)) (ds := []) (Array.replicate 14 false) (by kernel_rfl) rfl rfl ⟨(blk_cell (blkP (Sep.p13 HS.out)) 0).trans rfl, (blk_cell (blkP (Sep.p13 HS.out)) 1).trans rfl, (blk_cell (blkP (Sep.p13 HS.out)) 2).trans rfl, (blk_cell (blkP (Sep.p13 HS.out)) 3).trans rfl, (blk_cell (blkP (Sep.p12 HS.out)) 0).trans rfl, (blk_cell (blkP (Sep.p12 HS.out)) 1).trans rfl⟩ (fun hHeld => ?_)
 generalize hw_ : World.drew _ = w511 at HS HB hHeld ⊢
 clear hw_
 refine pP 4 (some 122) ?_
 refine pP 5 (some 123) ?_
 refine pT 0 (some 118) ?_
 refine pT 2 (some 120) ?_
 refine join_ (σ := Value × Value × Value × Value × Value × Value × Value × Value × Value) 0 (Array.replicate 14 true) (fun s => [(119, s.1), (121, s.2.1), (124, s.2.2.1), (125, s.2.2.2.1), (117, s.2.2.2.2.1), (126, s.2.2.2.2.2.1), (127, s.2.2.2.2.2.2.1), (20, s.2.2.2.2.2.2.2.1), (21, s.2.2.2.2.2.2.2.2)]) (fun s w' => ∃ (aB : Nat) (x872 : Nat) (y873 : Nat) (ay : Option Addr) (aA : Nat) (aw : Option Addr) (au : Nat) (ar : Option Addr) (ap : Nat) (ad : Option Addr) (ac : Nat), s = (.agg #[.int .i64 t513, .int .i64 t514, .int .i64 t515, .slice ay t516.length aA], .agg #[.int .i64 t573, .slice aw t574.length au], .slice ar t633.length ap, .tuple #[.agg #[.int .i64 t693, .slice ad t694.length ac], .bool t695], .tuple #[.agg #[.int .i64 t693, .slice ad t694.length ac], .bool t695], .agg #[.int .i64 t693, .slice ad t694.length ac], .bool t695, .pointer (some ⟨aB, 0, none⟩), .bool t695) ∧ Sep w.heap.size w' (iBlk aB #[.int .i64 t693, .slice ad t694.length ac] 35 :: iRow (Kd.int .u8) 5 w.heap.size x872 y873 (.slice ad t694.length ac) t694 :: [iRow (Kd.int .u8) 5 w.heap.size w413.heap.size w423.heap.size (.slice A425 t502.length c426) t502, iRow (Kd.int .u8) 5 w.heap.size w409.heap.size w413.heap.size (.slice A415 t491.length c416) t491, iRow (Kd.int .u8) 5 w.heap.size w396.heap.size w401.heap.size (.slice A403 t486.length c404) t486, iRow k72 72 w.heap.size w381.heap.size w388.heap.size (.slice A390 t481.length c391) t481, iRow (Kd.int .u8) 5 w.heap.size w466.heap.size w470.heap.size (.slice A472 t468.length c473) t468, iRow (Kd.int .u8) 5 w.heap.size w453.heap.size w458.heap.size (.slice A460 t456.length c461) t456, iRow k72 72 w.heap.size w437.heap.size w444.heap.size (.slice A446 t442.length c447) t442, iBlk g428 #[.int .i64 t419, .slice A425 t502.length c426] 35, iBlk g406 #[.int .i64 t398, .slice A403 t486.length c404] 35, iBlk g393 #[.int .i64 t383, .int .i64 t384, .int .i64 t385, .slice A390 t481.length c391] 33, iBlk az #[.int .i64 t200, .slice aa t201.length ab] 35, iRow (Kd.int .u8) 5 w.heap.size aN aO (.slice aa t201.length ab) t201, iBlk g4 #[.int .i64 af, .slice am ae.length an] 27, iBlk g1 #[.int .i64 ak, .int .i64 ai, .int .i64 aj, .slice av ag.length ax] 24]) ∧ Below w.heap.size w w') ?_ ?_
 rotate_left
 ·intro hCont
  refine two_ (i := 1) (j := 11) (Ni := (some 119)) (Nj := (some 20)) #[true, true, true, false, true, true, false, false, false, false, false, false, false, false] #[true, false, true, false, true, true, false, false, false, false, false, true, false, false] rfl rfl rfl rfl (by kernel_rfl) (by decide) (by decide) (fun K hK => ?_) (fun K hK => ?_)
  ·skip
   refine gG Try.func14 #[.agg #[.int .i64 ak, .int .i64 ai, .int .i64 aj, .slice av ag.length ax]] ?_
   refine (laws_toManifest.calls k ak ai aj _ _ ag t513 t514 t515 t516 _ (Kd.C_below al.out.1 HB.out) al.out.2 A517.out).mono ?_
   rintro e w518 ⟨v519, rfl, ho0, hb⟩; refine ⟨_, rfl, ?_⟩
   obtain ⟨ay, aA, hz⟩ := Kd.R_slice ho0; subst hz
   replace HS := aM (Sep.row HS.out hb HB.out.size ho0)
   replace HB := aM (below_step HB.out hb)
   clear ho0 hb
   refine hK.out _ _ ⟨(blk_cell (blkP (Sep.p14 HS.out)) 0).trans rfl, (blk_cell (blkP (Sep.p14 HS.out)) 1).trans rfl, (blk_cell (blkP (Sep.p14 HS.out)) 2).trans rfl, (blk_cell (blkP (Sep.p14 HS.out)) 3).trans rfl, (blk_cell (blkP (Sep.p13 HS.out)) 0).trans rfl, (blk_cell (blkP (Sep.p13 HS.out)) 1).trans rfl⟩ (fun hHeld => ?_)
   clear hK K
   refine nR ?_
   refine two_ (i := 3) (j := 11) (Ni := (some 121)) (Nj := (some 20)) #[true, true, true, true, true, true, false, false, false, false, false, false, false, false] #[true, true, true, false, true, true, false, false, false, false, false, true, false, false] rfl rfl rfl rfl (by kernel_rfl) (by decide) (by decide) (fun K hK => ?_) (fun K hK => ?_)
   ·skip
    refine gG Try.func15 #[.agg #[.int .i64 af, .slice am ae.length an]] ?_
    refine (laws_toBuild.calls k af _ _ ae t573 t574 _ (Kd.C_below ah.out.1 HB.out) ah.out.2 A575.out).mono ?_
    rintro e w576 ⟨v577, rfl, ho0, hb⟩; refine ⟨_, rfl, ?_⟩
    obtain ⟨aw, au, hz⟩ := Kd.R_slice ho0; subst hz
    replace HS := aM (Sep.row HS.out hb HB.out.size ho0)
    replace HB := aM (below_step HB.out hb)
    clear ho0 hb
    refine hK.out _ _ ⟨(blk_cell (blkP (Sep.p15 HS.out)) 0).trans rfl, (blk_cell (blkP (Sep.p15 HS.out)) 1).trans rfl, (blk_cell (blkP (Sep.p15 HS.out)) 2).trans rfl, (blk_cell (blkP (Sep.p15 HS.out)) 3).trans rfl, (blk_cell (blkP (Sep.p14 HS.out)) 0).trans rfl, (blk_cell (blkP (Sep.p14 HS.out)) 1).trans rfl⟩ (fun hHeld => ?_)
    clear hK K
    refine nR ?_
    refine two_ (i := 6) (j := 11) (Ni := (some 124)) (Nj := (some 20)) #[true, true, true, true, true, true, true, false, false, false, false, false, false, false] #[true, true, true, true, true, true, false, false, false, false, false, true, false, false] rfl rfl rfl rfl (by kernel_rfl) (by decide) (by decide) (fun K hK => ?_) (fun K hK => ?_)
    ·skip
     refine gG Try.func25 #[.slice A3 l3.length c3] ?_
     refine (laws_toByteS.calls k _ _ l3 t633 _ (Kd.C_below HR3.out.1 HB.out) HR3.out.2 A634.out).mono ?_
     rintro e aQ ⟨aP, rfl, ho0, hb⟩; refine ⟨_, rfl, ?_⟩
     obtain ⟨ar, ap, hz⟩ := Kd.R_slice ho0; subst hz
     replace HS := aM (Sep.row HS.out hb HB.out.size ho0)
     replace HB := aM (below_step HB.out hb)
     clear ho0 hb
     refine hK.out _ _ ⟨(blk_cell (blkP (Sep.p16 HS.out)) 0).trans rfl, (blk_cell (blkP (Sep.p16 HS.out)) 1).trans rfl, (blk_cell (blkP (Sep.p16 HS.out)) 2).trans rfl, (blk_cell (blkP (Sep.p16 HS.out)) 3).trans rfl, (blk_cell (blkP (Sep.p15 HS.out)) 0).trans rfl, (blk_cell (blkP (Sep.p15 HS.out)) 1).trans rfl⟩ (fun hHeld => ?_)
     clear hK K
     refine nR ?_
     refine two_ (i := 7) (j := 11) (Ni := (some 125)) (Nj := (some 20)) #[true, true, true, true, true, true, true, true, false, false, false, false, false, false] #[true, true, true, true, true, true, true, false, false, false, false, true, false, false] rfl rfl rfl rfl (by kernel_rfl) (by decide) (by decide) (fun K hK => ?_) (fun K hK => ?_)
     ·skip
      refine gG Try.func37 #[.agg #[.int .i64 t513, .int .i64 t514, .int .i64 t515, .slice ay t516.length aA], .agg #[.int .i64 t573, .slice aw t574.length au], .int .i64 a2, .slice ar t633.length ap] ?_
      refine (impl_PutPiece.calls k t513 t514 t515 _ _ t516 t573 _ _ t574 a2 _ _ t633 t693 t694 t695 _ (rowC (Sep.p2 HS.out)) (rowL (Sep.p2 HS.out)) (rowC (Sep.p1 HS.out)) (rowL (Sep.p1 HS.out)) (rowC (Sep.p0 HS.out)) (rowL (Sep.p0 HS.out)) A696.out).mono ?_
      rintro e aD ⟨aC, rfl, ho0, hb⟩; refine ⟨_, rfl, ?_⟩
      obtain ⟨ad, ac, hz⟩ := Kd.R_slice ho0; subst hz
      replace HS := aM (Sep.row HS.out hb HB.out.size ho0)
      replace HB := aM (below_step HB.out hb)
      clear ho0 hb
      refine hK.out _ _ ⟨(blk_cell (blkP (Sep.p17 HS.out)) 0).trans rfl, (blk_cell (blkP (Sep.p17 HS.out)) 1).trans rfl, (blk_cell (blkP (Sep.p17 HS.out)) 2).trans rfl, (blk_cell (blkP (Sep.p17 HS.out)) 3).trans rfl, (blk_cell (blkP (Sep.p16 HS.out)) 0).trans rfl, (blk_cell (blkP (Sep.p16 HS.out)) 1).trans rfl⟩ (fun hHeld => ?_)
      clear hK K
      refine nR ?_
      refine pP 8 (some 117) ?_
      refine pP 9 (some 126) ?_
      refine pP 10 (some 127) ?_
      refine pO 11 (some 20) (fun K hK => ?_)
      refine gBxS 20 #[.int .i64 0, .slice none 0 0] 35 ?_
      intro aB hg aI hbox hb; replace HS := aM (Sep.blk HS.out hb HB.out.size hg hbox); replace HB := aM (below_step HB.out hb); clear hb hbox hg
      refine hK.out _ _ ⟨(blk_cell (blkP (Sep.p18 HS.out)) 0).trans rfl, (blk_cell (blkP (Sep.p18 HS.out)) 1).trans rfl, (blk_cell (blkP (Sep.p18 HS.out)) 2).trans rfl, (blk_cell (blkP (Sep.p18 HS.out)) 3).trans rfl, (blk_cell (blkP (Sep.p17 HS.out)) 0).trans rfl, (blk_cell (blkP (Sep.p17 HS.out)) 1).trans rfl⟩ (fun hHeld => ?_)
      clear hK K
      refine nR ?_
      refine pO 12 none (fun K hK => ?_)
      refine gStS [.int .i64 t693, .slice ad t694.length ac] #[.int .i64 t693, .slice ad t694.length ac] (blkP (Sep.p0 HS.out)) ?_
      intro aF hw hbox; replace HB := aM (hw.below HB.out (Sep.r0 HS.out).1); replace HS := aM (Sep.wr HS.out hw hbox); clear hw hbox
      refine hK.out _ _ ⟨(blk_cell (blkP (Sep.p18 HS.out)) 0).trans rfl, (blk_cell (blkP (Sep.p18 HS.out)) 1).trans rfl, (blk_cell (blkP (Sep.p18 HS.out)) 2).trans rfl, (blk_cell (blkP (Sep.p18 HS.out)) 3).trans rfl, (blk_cell (blkP (Sep.p17 HS.out)) 0).trans rfl, (blk_cell (blkP (Sep.p17 HS.out)) 1).trans rfl⟩ (fun hHeld => ?_)
      clear hK K
      refine pP 13 (some 21) ?_
      replace HS := aM (Sep.f2 HS.out).drop
      replace HS := aM (Sep.f2 HS.out).drop
      replace HS := aM (Sep.f2 HS.out).drop
      replace HS := aM (Sep.f15 HS.out)
      replace HS := aM (Sep.f15 HS.out)
      replace HS := aM (Sep.f15 HS.out)
      replace HS := aM (Sep.f15 HS.out)
      replace HS := aM (Sep.f15 HS.out)
      replace HS := aM (Sep.f15 HS.out)
      replace HS := aM (Sep.f15 HS.out)
      replace HS := aM (Sep.f15 HS.out)
      replace HS := aM (Sep.f15 HS.out)
      replace HS := aM (Sep.f15 HS.out)
      replace HS := aM (Sep.f15 HS.out)
      replace HS := aM (Sep.f15 HS.out)
      replace HS := aM (Sep.f15 HS.out)
      replace HS := aM (Sep.f15 HS.out)
      replace HS := aM (Sep.f15 HS.out)
      replace HS := aM (Sep.f15 HS.out)
      exact laws_FnExactPutPiece.nM (hCont (.agg #[.int .i64 t513, .int .i64 t514, .int .i64 t515, .slice ay t516.length aA], .agg #[.int .i64 t573, .slice aw t574.length au], .slice ar t633.length ap, .tuple #[.agg #[.int .i64 t693, .slice ad t694.length ac], .bool t695], .tuple #[.agg #[.int .i64 t693, .slice ad t694.length ac], .bool t695], .agg #[.int .i64 t693, .slice ad t694.length ac], .bool t695, .pointer (some ⟨aB, 0, none⟩), .bool t695) _ ⟨_, _, _, _, _, _, _, _, _, _, _, rfl, HS.out, HB.out⟩)
     ·skip
      refine gBxS 20 #[.int .i64 0, .slice none 0 0] 35 ?_
      intro aB hg aI hbox hb; replace HS := aM (Sep.blk HS.out hb HB.out.size hg hbox); replace HB := aM (below_step HB.out hb); clear hb hbox hg
      refine hK.out _ _ ⟨(blk_cell (blkP (Sep.p17 HS.out)) 0).trans rfl, (blk_cell (blkP (Sep.p17 HS.out)) 1).trans rfl, (blk_cell (blkP (Sep.p17 HS.out)) 2).trans rfl, (blk_cell (blkP (Sep.p17 HS.out)) 3).trans rfl, (blk_cell (blkP (Sep.p16 HS.out)) 0).trans rfl, (blk_cell (blkP (Sep.p16 HS.out)) 1).trans rfl⟩ (fun hHeld => ?_)
      clear hK K
      refine nR ?_
      refine pO 7 (some 125) (fun K hK => ?_)
      refine gG Try.func37 #[.agg #[.int .i64 t513, .int .i64 t514, .int .i64 t515, .slice ay t516.length aA], .agg #[.int .i64 t573, .slice aw t574.length au], .int .i64 a2, .slice ar t633.length ap] ?_
      refine (impl_PutPiece.calls k t513 t514 t515 _ _ t516 t573 _ _ t574 a2 _ _ t633 t693 t694 t695 _ (rowC (Sep.p3 HS.out)) (rowL (Sep.p3 HS.out)) (rowC (Sep.p2 HS.out)) (rowL (Sep.p2 HS.out)) (rowC (Sep.p1 HS.out)) (rowL (Sep.p1 HS.out)) A696.out).mono ?_
      rintro e aD ⟨aC, rfl, ho0, hb⟩; refine ⟨_, rfl, ?_⟩
      obtain ⟨ad, ac, hz⟩ := Kd.R_slice ho0; subst hz
      replace HS := aM (Sep.row HS.out hb HB.out.size ho0)
      replace HB := aM (below_step HB.out hb)
      clear ho0 hb
      refine hK.out _ _ ⟨(blk_cell (blkP (Sep.p18 HS.out)) 0).trans rfl, (blk_cell (blkP (Sep.p18 HS.out)) 1).trans rfl, (blk_cell (blkP (Sep.p18 HS.out)) 2).trans rfl, (blk_cell (blkP (Sep.p18 HS.out)) 3).trans rfl, (blk_cell (blkP (Sep.p17 HS.out)) 0).trans rfl, (blk_cell (blkP (Sep.p17 HS.out)) 1).trans rfl⟩ (fun hHeld => ?_)
      clear hK K
      refine nR ?_
      refine pP 8 (some 117) ?_
      refine pP 9 (some 126) ?_
      refine pP 10 (some 127) ?_
      refine pO 12 none (fun K hK => ?_)
      replace HS := aM (Sep.f1 HS.out)
      refine gStS [.int .i64 t693, .slice ad t694.length ac] #[.int .i64 t693, .slice ad t694.length ac] (blkP (Sep.p0 HS.out)) ?_
      intro aF hw hbox; replace HB := aM (hw.below HB.out (Sep.r0 HS.out).1); replace HS := aM (Sep.wr HS.out hw hbox); clear hw hbox
      refine hK.out _ _ ⟨(blk_cell (blkP (Sep.p18 HS.out)) 0).trans rfl, (blk_cell (blkP (Sep.p18 HS.out)) 1).trans rfl, (blk_cell (blkP (Sep.p18 HS.out)) 2).trans rfl, (blk_cell (blkP (Sep.p18 HS.out)) 3).trans rfl, (blk_cell (blkP (Sep.p17 HS.out)) 0).trans rfl, (blk_cell (blkP (Sep.p17 HS.out)) 1).trans rfl⟩ (fun hHeld => ?_)
      clear hK K
      refine pP 13 (some 21) ?_
      replace HS := aM (Sep.f2 HS.out).drop
      replace HS := aM (Sep.f2 HS.out).drop
      replace HS := aM (Sep.f2 HS.out).drop
      replace HS := aM (Sep.f15 HS.out)
      replace HS := aM (Sep.f15 HS.out)
      replace HS := aM (Sep.f15 HS.out)
      replace HS := aM (Sep.f15 HS.out)
      replace HS := aM (Sep.f15 HS.out)
      replace HS := aM (Sep.f15 HS.out)
      replace HS := aM (Sep.f15 HS.out)
      replace HS := aM (Sep.f15 HS.out)
      replace HS := aM (Sep.f15 HS.out)
      replace HS := aM (Sep.f15 HS.out)
      replace HS := aM (Sep.f15 HS.out)
      replace HS := aM (Sep.f15 HS.out)
      replace HS := aM (Sep.f15 HS.out)
      replace HS := aM (Sep.f15 HS.out)
      replace HS := aM (Sep.f15 HS.out)
      replace HS := aM (Sep.f15 HS.out)
      exact laws_FnExactPutPiece.nM (hCont (.agg #[.int .i64 t513, .int .i64 t514, .int .i64 t515, .slice ay t516.length aA], .agg #[.int .i64 t573, .slice aw t574.length au], .slice ar t633.length ap, .tuple #[.agg #[.int .i64 t693, .slice ad t694.length ac], .bool t695], .tuple #[.agg #[.int .i64 t693, .slice ad t694.length ac], .bool t695], .agg #[.int .i64 t693, .slice ad t694.length ac], .bool t695, .pointer (some ⟨aB, 0, none⟩), .bool t695) _ ⟨_, _, _, _, _, _, _, _, _, _, _, rfl, HS.out, HB.out⟩)
    ·skip
     refine gBxS 20 #[.int .i64 0, .slice none 0 0] 35 ?_
     intro aB hg aI hbox hb; replace HS := aM (Sep.blk HS.out hb HB.out.size hg hbox); replace HB := aM (below_step HB.out hb); clear hb hbox hg
     refine hK.out _ _ ⟨(blk_cell (blkP (Sep.p16 HS.out)) 0).trans rfl, (blk_cell (blkP (Sep.p16 HS.out)) 1).trans rfl, (blk_cell (blkP (Sep.p16 HS.out)) 2).trans rfl, (blk_cell (blkP (Sep.p16 HS.out)) 3).trans rfl, (blk_cell (blkP (Sep.p15 HS.out)) 0).trans rfl, (blk_cell (blkP (Sep.p15 HS.out)) 1).trans rfl⟩ (fun hHeld => ?_)
     clear hK K
     refine nR ?_
     refine pO 6 (some 124) (fun K hK => ?_)
     refine gG Try.func25 #[.slice A3 l3.length c3] ?_
     refine (laws_toByteS.calls k _ _ l3 t633 _ (Kd.C_below HR3.out.1 HB.out) HR3.out.2 A634.out).mono ?_
     rintro e aQ ⟨aP, rfl, ho0, hb⟩; refine ⟨_, rfl, ?_⟩
     obtain ⟨ar, ap, hz⟩ := Kd.R_slice ho0; subst hz
     replace HS := aM (Sep.row HS.out hb HB.out.size ho0)
     replace HB := aM (below_step HB.out hb)
     clear ho0 hb
     refine hK.out _ _ ⟨(blk_cell (blkP (Sep.p17 HS.out)) 0).trans rfl, (blk_cell (blkP (Sep.p17 HS.out)) 1).trans rfl, (blk_cell (blkP (Sep.p17 HS.out)) 2).trans rfl, (blk_cell (blkP (Sep.p17 HS.out)) 3).trans rfl, (blk_cell (blkP (Sep.p16 HS.out)) 0).trans rfl, (blk_cell (blkP (Sep.p16 HS.out)) 1).trans rfl⟩ (fun hHeld => ?_)
     clear hK K
     refine nR ?_
     refine pO 7 (some 125) (fun K hK => ?_)
     refine gG Try.func37 #[.agg #[.int .i64 t513, .int .i64 t514, .int .i64 t515, .slice ay t516.length aA], .agg #[.int .i64 t573, .slice aw t574.length au], .int .i64 a2, .slice ar t633.length ap] ?_
     refine (impl_PutPiece.calls k t513 t514 t515 _ _ t516 t573 _ _ t574 a2 _ _ t633 t693 t694 t695 _ (rowC (Sep.p3 HS.out)) (rowL (Sep.p3 HS.out)) (rowC (Sep.p2 HS.out)) (rowL (Sep.p2 HS.out)) (rowC (Sep.p0 HS.out)) (rowL (Sep.p0 HS.out)) A696.out).mono ?_
     rintro e aD ⟨aC, rfl, ho0, hb⟩; refine ⟨_, rfl, ?_⟩
     obtain ⟨ad, ac, hz⟩ := Kd.R_slice ho0; subst hz
     replace HS := aM (Sep.row HS.out hb HB.out.size ho0)
     replace HB := aM (below_step HB.out hb)
     clear ho0 hb
     refine hK.out _ _ ⟨(blk_cell (blkP (Sep.p18 HS.out)) 0).trans rfl, (blk_cell (blkP (Sep.p18 HS.out)) 1).trans rfl, (blk_cell (blkP (Sep.p18 HS.out)) 2).trans rfl, (blk_cell (blkP (Sep.p18 HS.out)) 3).trans rfl, (blk_cell (blkP (Sep.p17 HS.out)) 0).trans rfl, (blk_cell (blkP (Sep.p17 HS.out)) 1).trans rfl⟩ (fun hHeld => ?_)
     clear hK K
     refine nR ?_
     refine pP 8 (some 117) ?_
     refine pP 9 (some 126) ?_
     refine pP 10 (some 127) ?_
     refine pO 12 none (fun K hK => ?_)
     replace HS := aM (Sep.f2 HS.out)
     refine gStS [.int .i64 t693, .slice ad t694.length ac] #[.int .i64 t693, .slice ad t694.length ac] (blkP (Sep.p0 HS.out)) ?_
     intro aF hw hbox; replace HB := aM (hw.below HB.out (Sep.r0 HS.out).1); replace HS := aM (Sep.wr HS.out hw hbox); clear hw hbox
     refine hK.out _ _ ⟨(blk_cell (blkP (Sep.p18 HS.out)) 0).trans rfl, (blk_cell (blkP (Sep.p18 HS.out)) 1).trans rfl, (blk_cell (blkP (Sep.p18 HS.out)) 2).trans rfl, (blk_cell (blkP (Sep.p18 HS.out)) 3).trans rfl, (blk_cell (blkP (Sep.p17 HS.out)) 0).trans rfl, (blk_cell (blkP (Sep.p17 HS.out)) 1).trans rfl⟩ (fun hHeld => ?_)
     clear hK K
     refine pP 13 (some 21) ?_
     replace HS := aM (Sep.f2 HS.out).drop
     replace HS := aM (Sep.f2 HS.out).drop
     replace HS := aM (Sep.f2 HS.out).drop
     replace HS := aM (Sep.f15 HS.out)
     replace HS := aM (Sep.f15 HS.out)
     replace HS := aM (Sep.f15 HS.out)
     replace HS := aM (Sep.f15 HS.out)
     replace HS := aM (Sep.f15 HS.out)
     replace HS := aM (Sep.f15 HS.out)
     replace HS := aM (Sep.f15 HS.out)
     replace HS := aM (Sep.f15 HS.out)
     replace HS := aM (Sep.f15 HS.out)
     replace HS := aM (Sep.f15 HS.out)
     replace HS := aM (Sep.f15 HS.out)
     replace HS := aM (Sep.f15 HS.out)
     replace HS := aM (Sep.f15 HS.out)
     replace HS := aM (Sep.f15 HS.out)
     replace HS := aM (Sep.f15 HS.out)
     replace HS := aM (Sep.f15 HS.out)
     exact laws_FnExactPutPiece.nM (hCont (.agg #[.int .i64 t513, .int .i64 t514, .int .i64 t515, .slice ay t516.length aA], .agg #[.int .i64 t573, .slice aw t574.length au], .slice ar t633.length ap, .tuple #[.agg #[.int .i64 t693, .slice ad t694.length ac], .bool t695], .tuple #[.agg #[.int .i64 t693, .slice ad t694.length ac], .bool t695], .agg #[.int .i64 t693, .slice ad t694.length ac], .bool t695, .pointer (some ⟨aB, 0, none⟩), .bool t695) _ ⟨_, _, _, _, _, _, _, _, _, _, _, rfl, HS.out, HB.out⟩)
   ·skip
    refine gBxS 20 #[.int .i64 0, .slice none 0 0] 35 ?_
    intro aB hg aI hbox hb; replace HS := aM (Sep.blk HS.out hb HB.out.size hg hbox); replace HB := aM (below_step HB.out hb); clear hb hbox hg
    refine hK.out _ _ ⟨(blk_cell (blkP (Sep.p15 HS.out)) 0).trans rfl, (blk_cell (blkP (Sep.p15 HS.out)) 1).trans rfl, (blk_cell (blkP (Sep.p15 HS.out)) 2).trans rfl, (blk_cell (blkP (Sep.p15 HS.out)) 3).trans rfl, (blk_cell (blkP (Sep.p14 HS.out)) 0).trans rfl, (blk_cell (blkP (Sep.p14 HS.out)) 1).trans rfl⟩ (fun hHeld => ?_)
    clear hK K
    refine nR ?_
    refine pO 3 (some 121) (fun K hK => ?_)
    refine gG Try.func15 #[.agg #[.int .i64 af, .slice am ae.length an]] ?_
    refine (laws_toBuild.calls k af _ _ ae t573 t574 _ (Kd.C_below ah.out.1 HB.out) ah.out.2 A575.out).mono ?_
    rintro e w576 ⟨v577, rfl, ho0, hb⟩; refine ⟨_, rfl, ?_⟩
    obtain ⟨aw, au, hz⟩ := Kd.R_slice ho0; subst hz
    replace HS := aM (Sep.row HS.out hb HB.out.size ho0)
    replace HB := aM (below_step HB.out hb)
    clear ho0 hb
    refine hK.out _ _ ⟨(blk_cell (blkP (Sep.p16 HS.out)) 0).trans rfl, (blk_cell (blkP (Sep.p16 HS.out)) 1).trans rfl, (blk_cell (blkP (Sep.p16 HS.out)) 2).trans rfl, (blk_cell (blkP (Sep.p16 HS.out)) 3).trans rfl, (blk_cell (blkP (Sep.p15 HS.out)) 0).trans rfl, (blk_cell (blkP (Sep.p15 HS.out)) 1).trans rfl⟩ (fun hHeld => ?_)
    clear hK K
    refine nR ?_
    refine pO 6 (some 124) (fun K hK => ?_)
    refine gG Try.func25 #[.slice A3 l3.length c3] ?_
    refine (laws_toByteS.calls k _ _ l3 t633 _ (Kd.C_below HR3.out.1 HB.out) HR3.out.2 A634.out).mono ?_
    rintro e aQ ⟨aP, rfl, ho0, hb⟩; refine ⟨_, rfl, ?_⟩
    obtain ⟨ar, ap, hz⟩ := Kd.R_slice ho0; subst hz
    replace HS := aM (Sep.row HS.out hb HB.out.size ho0)
    replace HB := aM (below_step HB.out hb)
    clear ho0 hb
    refine hK.out _ _ ⟨(blk_cell (blkP (Sep.p17 HS.out)) 0).trans rfl, (blk_cell (blkP (Sep.p17 HS.out)) 1).trans rfl, (blk_cell (blkP (Sep.p17 HS.out)) 2).trans rfl, (blk_cell (blkP (Sep.p17 HS.out)) 3).trans rfl, (blk_cell (blkP (Sep.p16 HS.out)) 0).trans rfl, (blk_cell (blkP (Sep.p16 HS.out)) 1).trans rfl⟩ (fun hHeld => ?_)
    clear hK K
    refine nR ?_
    refine pO 7 (some 125) (fun K hK => ?_)
    refine gG Try.func37 #[.agg #[.int .i64 t513, .int .i64 t514, .int .i64 t515, .slice ay t516.length aA], .agg #[.int .i64 t573, .slice aw t574.length au], .int .i64 a2, .slice ar t633.length ap] ?_
    refine (impl_PutPiece.calls k t513 t514 t515 _ _ t516 t573 _ _ t574 a2 _ _ t633 t693 t694 t695 _ (rowC (Sep.p3 HS.out)) (rowL (Sep.p3 HS.out)) (rowC (Sep.p1 HS.out)) (rowL (Sep.p1 HS.out)) (rowC (Sep.p0 HS.out)) (rowL (Sep.p0 HS.out)) A696.out).mono ?_
    rintro e aD ⟨aC, rfl, ho0, hb⟩; refine ⟨_, rfl, ?_⟩
    obtain ⟨ad, ac, hz⟩ := Kd.R_slice ho0; subst hz
    replace HS := aM (Sep.row HS.out hb HB.out.size ho0)
    replace HB := aM (below_step HB.out hb)
    clear ho0 hb
    refine hK.out _ _ ⟨(blk_cell (blkP (Sep.p18 HS.out)) 0).trans rfl, (blk_cell (blkP (Sep.p18 HS.out)) 1).trans rfl, (blk_cell (blkP (Sep.p18 HS.out)) 2).trans rfl, (blk_cell (blkP (Sep.p18 HS.out)) 3).trans rfl, (blk_cell (blkP (Sep.p17 HS.out)) 0).trans rfl, (blk_cell (blkP (Sep.p17 HS.out)) 1).trans rfl⟩ (fun hHeld => ?_)
    clear hK K
    refine nR ?_
    refine pP 8 (some 117) ?_
    refine pP 9 (some 126) ?_
    refine pP 10 (some 127) ?_
    refine pO 12 none (fun K hK => ?_)
    replace HS := aM (Sep.f3 HS.out)
    refine gStS [.int .i64 t693, .slice ad t694.length ac] #[.int .i64 t693, .slice ad t694.length ac] (blkP (Sep.p0 HS.out)) ?_
    intro aF hw hbox; replace HB := aM (hw.below HB.out (Sep.r0 HS.out).1); replace HS := aM (Sep.wr HS.out hw hbox); clear hw hbox
    refine hK.out _ _ ⟨(blk_cell (blkP (Sep.p18 HS.out)) 0).trans rfl, (blk_cell (blkP (Sep.p18 HS.out)) 1).trans rfl, (blk_cell (blkP (Sep.p18 HS.out)) 2).trans rfl, (blk_cell (blkP (Sep.p18 HS.out)) 3).trans rfl, (blk_cell (blkP (Sep.p17 HS.out)) 0).trans rfl, (blk_cell (blkP (Sep.p17 HS.out)) 1).trans rfl⟩ (fun hHeld => ?_)
    clear hK K
    refine pP 13 (some 21) ?_
    replace HS := aM (Sep.f2 HS.out).drop
    replace HS := aM (Sep.f2 HS.out).drop
    replace HS := aM (Sep.f2 HS.out).drop
    replace HS := aM (Sep.f15 HS.out)
    replace HS := aM (Sep.f15 HS.out)
    replace HS := aM (Sep.f15 HS.out)
    replace HS := aM (Sep.f15 HS.out)
    replace HS := aM (Sep.f15 HS.out)
    replace HS := aM (Sep.f15 HS.out)
    replace HS := aM (Sep.f15 HS.out)
    replace HS := aM (Sep.f15 HS.out)
    replace HS := aM (Sep.f15 HS.out)
    replace HS := aM (Sep.f15 HS.out)
    replace HS := aM (Sep.f15 HS.out)
    replace HS := aM (Sep.f15 HS.out)
    replace HS := aM (Sep.f15 HS.out)
    replace HS := aM (Sep.f15 HS.out)
    replace HS := aM (Sep.f15 HS.out)
    replace HS := aM (Sep.f15 HS.out)
    exact laws_FnExactPutPiece.nM (hCont (.agg #[.int .i64 t513, .int .i64 t514, .int .i64 t515, .slice ay t516.length aA], .agg #[.int .i64 t573, .slice aw t574.length au], .slice ar t633.length ap, .tuple #[.agg #[.int .i64 t693, .slice ad t694.length ac], .bool t695], .tuple #[.agg #[.int .i64 t693, .slice ad t694.length ac], .bool t695], .agg #[.int .i64 t693, .slice ad t694.length ac], .bool t695, .pointer (some ⟨aB, 0, none⟩), .bool t695) _ ⟨_, _, _, _, _, _, _, _, _, _, _, rfl, HS.out, HB.out⟩)
  ·skip
   refine gBxS 20 #[.int .i64 0, .slice none 0 0] 35 ?_
   intro aB hg aI hbox hb; replace HS := aM (Sep.blk HS.out hb HB.out.size hg hbox); replace HB := aM (below_step HB.out hb); clear hb hbox hg
   refine hK.out _ _ ⟨(blk_cell (blkP (Sep.p14 HS.out)) 0).trans rfl, (blk_cell (blkP (Sep.p14 HS.out)) 1).trans rfl, (blk_cell (blkP (Sep.p14 HS.out)) 2).trans rfl, (blk_cell (blkP (Sep.p14 HS.out)) 3).trans rfl, (blk_cell (blkP (Sep.p13 HS.out)) 0).trans rfl, (blk_cell (blkP (Sep.p13 HS.out)) 1).trans rfl⟩ (fun hHeld => ?_)
   clear hK K
   refine nR ?_
   refine pO 1 (some 119) (fun K hK => ?_)
   refine gG Try.func14 #[.agg #[.int .i64 ak, .int .i64 ai, .int .i64 aj, .slice av ag.length ax]] ?_
   refine (laws_toManifest.calls k ak ai aj _ _ ag t513 t514 t515 t516 _ (Kd.C_below al.out.1 HB.out) al.out.2 A517.out).mono ?_
   rintro e w518 ⟨v519, rfl, ho0, hb⟩; refine ⟨_, rfl, ?_⟩
   obtain ⟨ay, aA, hz⟩ := Kd.R_slice ho0; subst hz
   replace HS := aM (Sep.row HS.out hb HB.out.size ho0)
   replace HB := aM (below_step HB.out hb)
   clear ho0 hb
   refine hK.out _ _ ⟨(blk_cell (blkP (Sep.p15 HS.out)) 0).trans rfl, (blk_cell (blkP (Sep.p15 HS.out)) 1).trans rfl, (blk_cell (blkP (Sep.p15 HS.out)) 2).trans rfl, (blk_cell (blkP (Sep.p15 HS.out)) 3).trans rfl, (blk_cell (blkP (Sep.p14 HS.out)) 0).trans rfl, (blk_cell (blkP (Sep.p14 HS.out)) 1).trans rfl⟩ (fun hHeld => ?_)
   clear hK K
   refine nR ?_
   refine pO 3 (some 121) (fun K hK => ?_)
   refine gG Try.func15 #[.agg #[.int .i64 af, .slice am ae.length an]] ?_
   refine (laws_toBuild.calls k af _ _ ae t573 t574 _ (Kd.C_below ah.out.1 HB.out) ah.out.2 A575.out).mono ?_
   rintro e w576 ⟨v577, rfl, ho0, hb⟩; refine ⟨_, rfl, ?_⟩
   obtain ⟨aw, au, hz⟩ := Kd.R_slice ho0; subst hz
   replace HS := aM (Sep.row HS.out hb HB.out.size ho0)
   replace HB := aM (below_step HB.out hb)
   clear ho0 hb
   refine hK.out _ _ ⟨(blk_cell (blkP (Sep.p16 HS.out)) 0).trans rfl, (blk_cell (blkP (Sep.p16 HS.out)) 1).trans rfl, (blk_cell (blkP (Sep.p16 HS.out)) 2).trans rfl, (blk_cell (blkP (Sep.p16 HS.out)) 3).trans rfl, (blk_cell (blkP (Sep.p15 HS.out)) 0).trans rfl, (blk_cell (blkP (Sep.p15 HS.out)) 1).trans rfl⟩ (fun hHeld => ?_)
   clear hK K
   refine nR ?_
   refine pO 6 (some 124) (fun K hK => ?_)
   refine gG Try.func25 #[.slice A3 l3.length c3] ?_
   refine (laws_toByteS.calls k _ _ l3 t633 _ (Kd.C_below HR3.out.1 HB.out) HR3.out.2 A634.out).mono ?_
   rintro e aQ ⟨aP, rfl, ho0, hb⟩; refine ⟨_, rfl, ?_⟩
   obtain ⟨ar, ap, hz⟩ := Kd.R_slice ho0; subst hz
   replace HS := aM (Sep.row HS.out hb HB.out.size ho0)
   replace HB := aM (below_step HB.out hb)
   clear ho0 hb
   refine hK.out _ _ ⟨(blk_cell (blkP (Sep.p17 HS.out)) 0).trans rfl, (blk_cell (blkP (Sep.p17 HS.out)) 1).trans rfl, (blk_cell (blkP (Sep.p17 HS.out)) 2).trans rfl, (blk_cell (blkP (Sep.p17 HS.out)) 3).trans rfl, (blk_cell (blkP (Sep.p16 HS.out)) 0).trans rfl, (blk_cell (blkP (Sep.p16 HS.out)) 1).trans rfl⟩ (fun hHeld => ?_)
   clear hK K
   refine nR ?_
   refine pO 7 (some 125) (fun K hK => ?_)
   refine gG Try.func37 #[.agg #[.int .i64 t513, .int .i64 t514, .int .i64 t515, .slice ay t516.length aA], .agg #[.int .i64 t573, .slice aw t574.length au], .int .i64 a2, .slice ar t633.length ap] ?_
   refine (impl_PutPiece.calls k t513 t514 t515 _ _ t516 t573 _ _ t574 a2 _ _ t633 t693 t694 t695 _ (rowC (Sep.p2 HS.out)) (rowL (Sep.p2 HS.out)) (rowC (Sep.p1 HS.out)) (rowL (Sep.p1 HS.out)) (rowC (Sep.p0 HS.out)) (rowL (Sep.p0 HS.out)) A696.out).mono ?_
   rintro e aD ⟨aC, rfl, ho0, hb⟩; refine ⟨_, rfl, ?_⟩
   obtain ⟨ad, ac, hz⟩ := Kd.R_slice ho0; subst hz
   replace HS := aM (Sep.row HS.out hb HB.out.size ho0)
   replace HB := aM (below_step HB.out hb)
   clear ho0 hb
   refine hK.out _ _ ⟨(blk_cell (blkP (Sep.p18 HS.out)) 0).trans rfl, (blk_cell (blkP (Sep.p18 HS.out)) 1).trans rfl, (blk_cell (blkP (Sep.p18 HS.out)) 2).trans rfl, (blk_cell (blkP (Sep.p18 HS.out)) 3).trans rfl, (blk_cell (blkP (Sep.p17 HS.out)) 0).trans rfl, (blk_cell (blkP (Sep.p17 HS.out)) 1).trans rfl⟩ (fun hHeld => ?_)
   clear hK K
   refine nR ?_
   refine pP 8 (some 117) ?_
   refine pP 9 (some 126) ?_
   refine pP 10 (some 127) ?_
   refine pO 12 none (fun K hK => ?_)
   replace HS := aM (Sep.f4 HS.out)
   refine gStS [.int .i64 t693, .slice ad t694.length ac] #[.int .i64 t693, .slice ad t694.length ac] (blkP (Sep.p0 HS.out)) ?_
   intro aF hw hbox; replace HB := aM (hw.below HB.out (Sep.r0 HS.out).1); replace HS := aM (Sep.wr HS.out hw hbox); clear hw hbox
   refine hK.out _ _ ⟨(blk_cell (blkP (Sep.p18 HS.out)) 0).trans rfl, (blk_cell (blkP (Sep.p18 HS.out)) 1).trans rfl, (blk_cell (blkP (Sep.p18 HS.out)) 2).trans rfl, (blk_cell (blkP (Sep.p18 HS.out)) 3).trans rfl, (blk_cell (blkP (Sep.p17 HS.out)) 0).trans rfl, (blk_cell (blkP (Sep.p17 HS.out)) 1).trans rfl⟩ (fun hHeld => ?_)
   clear hK K
   refine pP 13 (some 21) ?_
   replace HS := aM (Sep.f2 HS.out).drop
   replace HS := aM (Sep.f2 HS.out).drop
   replace HS := aM (Sep.f2 HS.out).drop
   replace HS := aM (Sep.f15 HS.out)
   replace HS := aM (Sep.f15 HS.out)
   replace HS := aM (Sep.f15 HS.out)
   replace HS := aM (Sep.f15 HS.out)
   replace HS := aM (Sep.f15 HS.out)
   replace HS := aM (Sep.f15 HS.out)
   replace HS := aM (Sep.f15 HS.out)
   replace HS := aM (Sep.f15 HS.out)
   replace HS := aM (Sep.f15 HS.out)
   replace HS := aM (Sep.f15 HS.out)
   replace HS := aM (Sep.f15 HS.out)
   replace HS := aM (Sep.f15 HS.out)
   replace HS := aM (Sep.f15 HS.out)
   replace HS := aM (Sep.f15 HS.out)
   replace HS := aM (Sep.f15 HS.out)
   replace HS := aM (Sep.f15 HS.out)
   exact laws_FnExactPutPiece.nM (hCont (.agg #[.int .i64 t513, .int .i64 t514, .int .i64 t515, .slice ay t516.length aA], .agg #[.int .i64 t573, .slice aw t574.length au], .slice ar t633.length ap, .tuple #[.agg #[.int .i64 t693, .slice ad t694.length ac], .bool t695], .tuple #[.agg #[.int .i64 t693, .slice ad t694.length ac], .bool t695], .agg #[.int .i64 t693, .slice ad t694.length ac], .bool t695, .pointer (some ⟨aB, 0, none⟩), .bool t695) _ ⟨_, _, _, _, _, _, _, _, _, _, _, rfl, HS.out, HB.out⟩)
 rintro _ w874 ⟨aB, x872, y873, ay, aA, aw, au, ar, ap, ad, ac, rfl, hs_, hb_⟩
 replace HS := aM hs_
 replace HB := aM hb_
 clear hs_ hb_ hHeld
 refine norm_ (a' := ?_) ?_ ?_
 rotate_left
 ·simp only [putAll, Act.put, List.setIfInBounds_toArray, List.set_cons_zero, List.set_cons_succ]
  rfl
 refine done_ (by kernel_rfl) ?_
 replace h := bE h; obtain ⟨t876, A877, h⟩ := h
 replace h := ifN h; obtain ⟨hq, h⟩ := h
 subst hq
 replace h := ifN h; obtain ⟨c879, h⟩ := h
 have c879b : (t695 == t202) = true := by rw [c879]; simp
 replace h := bE h; obtain ⟨t881, A882, h⟩ := h
 replace h := ifM h; obtain ⟨c884, h⟩ := h
 have c884b : decide (t881 < 0) = false := decide_eq_false c884
 clear c884
 replace h := ifN h; obtain ⟨c885, h⟩ := h
 have c885b : (t881 != t501) = false := bne_eq_false_iff_eq.mpr c885
 clear c885
 go_wp2_with (first | ((with_reducible refine gate_dst (N := 128) rfl ?_); refine gLd 128 (blkP (Sep.p0 HS.out)) ?_; (simp only [Act.put, List.setIfInBounds_toArray, List.set_cons_zero, List.set_cons_succ])) | ((with_reducible refine gate_dst (N := 129) rfl ?_); refine gLd 129 (blkP (Sep.p12 HS.out)) ?_; (simp only [Act.put, List.setIfInBounds_toArray, List.set_cons_zero, List.set_cons_succ])) | ((with_reducible refine gate_callee (f := 18) rfl ?_); (with_reducible refine gate_dst (N := 130) rfl ?_); refine gL (some 130) Try.func18 #[.agg #[.int .i64 t693, .slice ad t694.length ac], .agg #[.int .i64 t200, .slice aa t201.length ab]] ?_; refine (laws_eqBuild.calls k t693 _ _ t694 t200 _ _ t201 true _ (rowC (Sep.p1 HS.out)) (rowL (Sep.p1 HS.out)) (rowC (Sep.p13 HS.out)) (rowL (Sep.p13 HS.out)) A877.out).mono ?_; rintro e w878 ⟨rfl, hb⟩; refine ⟨_, rfl, ?_⟩; replace HS := aM (HS.out.below hb); replace HB := aM (below_step HB.out hb); clear hb; (simp only [Act.put, List.setIfInBounds_toArray, List.set_cons_zero, List.set_cons_succ])) | ((with_reducible refine gate_dst (N := 137) rfl ?_); refine gLd 137 (blkP (Sep.p9 HS.out)) ?_; (simp only [Act.put, List.setIfInBounds_toArray, List.set_cons_zero, List.set_cons_succ])) | ((with_reducible refine gate_callee (f := 23) rfl ?_); (with_reducible refine gate_dst (N := 139) rfl ?_); refine gL (some 139) Try.func23 #[.agg #[.int .i64 t419, .slice A425 t502.length c426], .int .i64 1] ?_; refine (laws_heldBuild.calls k t419 _ _ t502 1 t881 _ (rowC (Sep.p2 HS.out)) (rowL (Sep.p2 HS.out)) A882.out).mono ?_; rintro e w883 ⟨rfl, hb⟩; refine ⟨_, rfl, ?_⟩; replace HS := aM (HS.out.below hb); replace HB := aM (below_step HB.out hb); clear hb; (simp only [Act.put, List.setIfInBounds_toArray, List.set_cons_zero, List.set_cons_succ])))
 obtain rfl := Option.some.inj h
 (try go_wp2)
 go_ret
 exact ⟨rfl, HB.out⟩

end Go.Proofs.Ytnoplippaiblcaa.Q
