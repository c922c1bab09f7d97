/- Functions of the program as plain Lean functions, and that a call of each comes to what its function tells. Written by a program of this seat. -/
import Derived.Test.YtogilihkphjjbaaQ0
import Derived.Test.YtogilihkphjjbaaQ2
import Derived.Test.YtogilihkphjjbaaQ4
import Derived.Test.YtogilihkphjjbaaQ6
import Derived.Test.YtogilihkphjjbaaQ7
import Derived.Test.YtogilihkphjjbaaQ13
import Derived.Test.YtogilihkphjjbaaQ14
import Derived.Test.YtogilihkphjjbaaQ15
import Derived.Test.YtogilihkphjjbaaQ25
import Derived.Test.YtogilihkphjjbaaQ27
namespace Go.Proofs.Ytogilihkphjjbaa.Q
open Go.RowKit Go.Proofs.YtogilihkphjjbaaW.PrintWords Go.Proofs.YtogilihkphjjbaaW.PrintLast Go.Proofs.YtogilihkphjjbaaW.PrintMore
attribute [local go_sem] max2_int min2_int max_two min_two max_three min_three max_four min_four   -- for this text's walks alone
set_option linter.unusedVariables false
set_option linter.unusedSimpArgs false

/-! ### laws_FnExactRecover: function 8 -/
def laws_FnExactRecover.f (k : Nat) (l0_0 : List Int) (l0_1 : List Int) (a0_2 : Int) (a0_3 : Int) (a0_4 : Int) (l0_5 : List (S51)) : Option Bool := ((laws_szDisk.f k l0_0 l0_1 a0_2 a0_3 a0_4 l0_5 1048576).bind fun b4 => (if b4 < 0 then some true else ((laws_toDisk.f k l0_0 l0_1 a0_2 a0_3 a0_4 l0_5).bind fun b9 => ((spec_Recover.f k b9.1 b9.2.1 b9.2.2.1 b9.2.2.2.1 b9.2.2.2.2.1 b9.2.2.2.2.2).bind fun b28 => ((laws_toDisk.f k l0_0 l0_1 a0_2 a0_3 a0_4 l0_5).bind fun b37 => ((impl_Recover.f k b37.1 b37.2.1 b37.2.2.1 b37.2.2.2.1 b37.2.2.2.2.1 b37.2.2.2.2.2).bind fun b60 => (if b60.1 = b28.1 then ((laws_eqByteS.f k b60.2 b28.2).bind fun b70 => (if b70 = true then ((laws_toDisk.f k l0_0 l0_1 a0_2 a0_3 a0_4 l0_5).bind fun b75 => ((laws_eqDisk.f k b37.1 b37.2.1 b37.2.2.1 b37.2.2.2.1 b37.2.2.2.2.1 b37.2.2.2.2.2 b75.1 b75.2.1 b75.2.2.1 b75.2.2.2.1 b75.2.2.2.2.1 b75.2.2.2.2.2).bind fun b94 => (if b94 = true then ((laws_markDisk.f k b37.1 b37.2.1 b37.2.2.1 b37.2.2.2.1 b37.2.2.2.2.1 b37.2.2.2.2.2 1).bind fun b98 => (if b98.1 < 0 then none else (if b60.1 = b28.1 then ((laws_eqByteS.f k b60.2 b28.2).bind fun b107 => (if b107 = true then ((laws_markByteS.f k b60.2 1).bind fun b111 => ((laws_heldByteS.f k b111.2 1).bind fun b116 => (if b116 < 0 then none else (if b116 = b111.1 then ((laws_toDisk.f k l0_0 l0_1 a0_2 a0_3 a0_4 l0_5).bind fun b122 => ((impl_Recover.f k b122.1 b122.2.1 b122.2.2.1 b122.2.2.2.1 b122.2.2.2.2.1 b122.2.2.2.2.2).bind fun b141 => (if b141.1 = b28.1 then ((laws_eqByteS.f k b141.2 b28.2).bind fun b151 => (if b151 = true then ((laws_heldByteS.f k b111.2 1).bind fun b155 => (if b155 < 0 then none else (if b155 = b111.1 then (some true) else none))) else none)) else none))) else none)))) else none)) else none))) else none))) else none)) else none)))))))
set_option maxHeartbeats 40000000 in
set_option maxRecDepth 100000 in
theorem laws_FnExactRecover.calls (k : Nat) (A0_0 : Option Addr) (c0_0 : Nat) (l0_0 : List Int) (A0_1 : Option Addr) (c0_1 : Nat) (l0_1 : List Int) (a0_2 : Int) (a0_3 : Int) (a0_4 : Int) (A0_5 : Option Addr) (c0_5 : Nat) (l0_5 : List (S51)) (r : Bool) (w : World) (hr0_0 : Kd.C (Kd.int .u8) w A0_0 l0_0.length l0_0) (hc0_0 : l0_0.length ≤ c0_0) (hr0_1 : Kd.C (Kd.int .u8) w A0_1 l0_1.length l0_1) (hc0_1 : l0_1.length ≤ c0_1) (hr0_5 : Kd.C k51 w A0_5 l0_5.length l0_5) (hc0_5 : l0_5.length ≤ c0_5) (h : laws_FnExactRecover.f k l0_0 l0_1 a0_2 a0_3 a0_4 l0_5 = some r) :
    Calls Try.prog 8 #[.agg #[.slice A0_0 l0_0.length c0_0, .slice A0_1 l0_1.length c0_1, .int .i64 a0_2, .int .i64 a0_3, .int .i64 a0_4, .slice A0_5 l0_5.length c0_5]] w fun e w' => e = .returned (.bool r) ∧ Below w.heap.size w w' := by
  have hu27 := Try.underlying27
  have hu33 := Try.underlying33
  have HR0_0 := aM (And.intro hr0_0 hc0_0)
  have HR0_1 := aM (And.intro hr0_1 hc0_1)
  have HR0_5 := aM (And.intro hr0_5 hc0_5)
  clear hr0_0 hc0_0 hr0_1 hc0_1 hr0_5 hc0_5
  have HB := aM (Below.refl w.heap.size w)
  have HS := aM (show Sep w.heap.size w [] from trivial)
  unfold laws_FnExactRecover.f at h
  go_enter Try.func8, Try.ntmps8
  replace h := bE h; obtain ⟨t5, A6, h⟩ := h
  go_wp2_with (first | ((with_reducible refine gate_dst (N := 1) rfl ?_); refine gBx 1 #[.slice A0_0 l0_0.length c0_0, .slice A0_1 l0_1.length c0_1, .int .i64 a0_2, .int .i64 a0_3, .int .i64 a0_4, .slice A0_5 l0_5.length c0_5] 27 ?_; intro g1 hg w2 hbox hb; replace HS := aM (Sep.blk HS.out hb HB.out.size hg hbox); replace HB := aM (below_step HB.out hb); clear hb hbox hg; (simp only [Act.put, List.setIfInBounds_toArray, List.set_cons_zero, List.set_cons_succ])) | ((with_reducible refine gate_dst (N := 14) rfl ?_); refine gLd 14 (blkP (Sep.p0 HS.out)) ?_; (simp only [Act.put, List.setIfInBounds_toArray, List.set_cons_zero, List.set_cons_succ])) | ((with_reducible refine gate_callee (f := 15) rfl ?_); (with_reducible refine gate_dst (N := 16) rfl ?_); refine gL (some 16) Try.func15 #[.agg #[.slice A0_0 l0_0.length c0_0, .slice A0_1 l0_1.length c0_1, .int .i64 a0_2, .int .i64 a0_3, .int .i64 a0_4, .slice A0_5 l0_5.length c0_5], .int .i64 1048576] ?_; refine (laws_szDisk.calls k _ _ l0_0 _ _ l0_1 a0_2 a0_3 a0_4 _ _ l0_5 1048576 t5 _ (Kd.C_below HR0_0.out.1 HB.out) HR0_0.out.2 (Kd.C_below HR0_1.out.1 HB.out) HR0_1.out.2 (Kd.C_below HR0_5.out.1 HB.out) HR0_5.out.2 A6.out).mono ?_; rintro e w7 ⟨rfl, hb⟩; refine ⟨_, rfl, ?_⟩; replace HS := aM (HS.out.below hb); replace HB := aM (below_step HB.out hb); clear hb; (simp only [Act.put, List.setIfInBounds_toArray, List.set_cons_zero, List.set_cons_succ])) | ((with_reducible refine gate_dst (N := 18) rfl ?_); generalize hG_ : wpList _ _ _ _ _ _ = G_))
  subst hG_
  by_cases c8 : t5 < 0
  · rw [if_pos c8] at h
    have c8b0 : decide (t5 < 0) = true := decide_eq_true c8
    obtain rfl := Option.some.inj h
    clear h c8
    go_wp2
    go_ret
    exact ⟨rfl, HB.out⟩
  rw [if_neg c8] at h
  have c8b0 : decide (t5 < 0) = false := decide_eq_false c8
  clear c8
  replace h := bE h; obtain ⟨⟨t10, t11, t12, t13, t14, t15⟩, A16, h⟩ := h
  dsimp only at h
  replace h := bE h; obtain ⟨⟨t29, t30⟩, A31, h⟩ := h
  dsimp only at h
  replace h := bE h; obtain ⟨⟨t38, t39, t40, t41, t42, t43⟩, A44, h⟩ := h
  dsimp only at h
  replace h := bE h; obtain ⟨⟨t61, t62⟩, A63, h⟩ := h
  dsimp only at h
  replace h := ifN h; obtain ⟨c69, h⟩ := h
  have c69b : (t61 != t29) = false := bne_eq_false_iff_eq.mpr c69
  clear c69
  replace h := bE h; obtain ⟨t71, A72, h⟩ := h
  replace h := ifN h; obtain ⟨hq, h⟩ := h
  subst hq
  replace h := bE h; obtain ⟨⟨t76, t77, t78, t79, t80, t81⟩, A82, h⟩ := h
  dsimp only at h
  replace h := bE h; obtain ⟨t95, A96, h⟩ := h
  replace h := ifN h; obtain ⟨hq, h⟩ := h
  subst hq
  go_wp2_with (first | ((with_reducible refine gate_dst (N := 20) rfl ?_); refine gLd 20 (blkP (Sep.p0 HS.out)) ?_; (simp only [Act.put, List.setIfInBounds_toArray, List.set_cons_zero, List.set_cons_succ])) | ((with_reducible refine gate_callee (f := 17) rfl ?_); (with_reducible refine gate_dst (N := 21) rfl ?_); refine gL (some 21) Try.func17 #[.agg #[.slice A0_0 l0_0.length c0_0, .slice A0_1 l0_1.length c0_1, .int .i64 a0_2, .int .i64 a0_3, .int .i64 a0_4, .slice A0_5 l0_5.length c0_5]] ?_; refine (laws_toDisk.calls k _ _ l0_0 _ _ l0_1 a0_2 a0_3 a0_4 _ _ l0_5 t10 t11 t12 t13 t14 t15 _ (Kd.C_below HR0_0.out.1 HB.out) HR0_0.out.2 (Kd.C_below HR0_1.out.1 HB.out) HR0_1.out.2 (Kd.C_below HR0_5.out.1 HB.out) HR0_5.out.2 A16.out).mono ?_; rintro e w17 ⟨v18, v19, v20, rfl, ho0, ho1, ho2, hb⟩; refine ⟨_, rfl, ?_⟩; obtain ⟨A21, c22, hz⟩ := Kd.R_slice ho0; subst hz; obtain ⟨A23, c24, hz⟩ := Kd.R_slice ho1; subst hz; obtain ⟨A25, c26, hz⟩ := Kd.S_slice ho2; subst hz; replace HS := aM (Sep.disk HS.out hb HB.out.size ho0 ho1 ho2); replace HB := aM (below_step HB.out hb); clear ho0 ho1 ho2 hb; (simp only [Act.put, List.setIfInBounds_toArray, List.set_cons_zero, List.set_cons_succ])) | ((with_reducible refine gate_callee (f := 33) rfl ?_); (with_reducible refine gate_dst (N := 22) rfl ?_); refine gL (some 22) Try.func33 #[.agg #[.slice A21 t10.length c22, .slice A23 t11.length c24, .int .i64 t12, .int .i64 t13, .int .i64 t14, .slice A25 t15.length c26]] ?_; refine (spec_Recover.calls k _ _ t10 _ _ t11 t12 t13 t14 _ _ t15 t29 t30 _ (diskC0 (Sep.p0 HS.out)) (diskL0 (Sep.p0 HS.out)) (diskC1 (Sep.p0 HS.out)) (diskL1 (Sep.p0 HS.out)) (diskC2 (Sep.p0 HS.out)) (diskL2 (Sep.p0 HS.out)) A31.out).mono ?_; rintro e w32 ⟨v33, rfl, ho0, hb⟩; refine ⟨_, rfl, ?_⟩; obtain ⟨A34, c35, hz⟩ := Kd.R_slice ho0; subst hz; replace HS := aM (Sep.row HS.out hb HB.out.size ho0); replace HB := aM (below_step HB.out hb); clear ho0 hb; (simp only [Act.put, List.setIfInBounds_toArray, List.set_cons_zero, List.set_cons_succ])) | ((with_reducible refine gate_dst (N := 25) rfl ?_); refine gLd 25 (blkP (Sep.p2 HS.out)) ?_; (simp only [Act.put, List.setIfInBounds_toArray, List.set_cons_zero, List.set_cons_succ])) | ((with_reducible refine gate_callee (f := 17) rfl ?_); (with_reducible refine gate_dst (N := 26) rfl ?_); refine gL (some 26) Try.func17 #[.agg #[.slice A0_0 l0_0.length c0_0, .slice A0_1 l0_1.length c0_1, .int .i64 a0_2, .int .i64 a0_3, .int .i64 a0_4, .slice A0_5 l0_5.length c0_5]] ?_; refine (laws_toDisk.calls k _ _ l0_0 _ _ l0_1 a0_2 a0_3 a0_4 _ _ l0_5 t38 t39 t40 t41 t42 t43 _ (Kd.C_below HR0_0.out.1 HB.out) HR0_0.out.2 (Kd.C_below HR0_1.out.1 HB.out) HR0_1.out.2 (Kd.C_below HR0_5.out.1 HB.out) HR0_5.out.2 A44.out).mono ?_; rintro e w45 ⟨v46, v47, v48, rfl, ho0, ho1, ho2, hb⟩; refine ⟨_, rfl, ?_⟩; obtain ⟨A49, c50, hz⟩ := Kd.R_slice ho0; subst hz; obtain ⟨A51, c52, hz⟩ := Kd.R_slice ho1; subst hz; obtain ⟨A53, c54, hz⟩ := Kd.S_slice ho2; subst hz; replace HS := aM (Sep.disk HS.out hb HB.out.size ho0 ho1 ho2); replace HB := aM (below_step HB.out hb); clear ho0 ho1 ho2 hb; (simp only [Act.put, List.setIfInBounds_toArray, List.set_cons_zero, List.set_cons_succ])) | ((with_reducible refine gate_dst (N := 6) rfl ?_); refine gBx 6 #[.slice none 0 0, .slice none 0 0, .int .i64 0, .int .i64 0, .int .i64 0, .slice none 0 0] 33 ?_; intro g56 hg w57 hbox hb; replace HS := aM (Sep.blk HS.out hb HB.out.size hg hbox); replace HB := aM (below_step HB.out hb); clear hb hbox hg; (simp only [Act.put, List.setIfInBounds_toArray, List.set_cons_zero, List.set_cons_succ])) | ((with_reducible refine gate_store (t := 33) (p := 6) rfl ?_); refine gSt [.slice A49 t38.length c50, .slice A51 t39.length c52, .int .i64 t40, .int .i64 t41, .int .i64 t42, .slice A53 t43.length c54] #[.slice A49 t38.length c50, .slice A51 t39.length c52, .int .i64 t40, .int .i64 t41, .int .i64 t42, .slice A53 t43.length c54] (blkP (Sep.p0 HS.out)) ?_; intro w59 hw hbox; replace HB := aM (hw.below HB.out (Sep.r0 HS.out).1); replace HS := aM (Sep.wr HS.out hw hbox); clear hw hbox) | ((with_reducible refine gate_dst (N := 28) rfl ?_); refine gLd 28 (blkP (Sep.p0 HS.out)) ?_; (simp only [Act.put, List.setIfInBounds_toArray, List.set_cons_zero, List.set_cons_succ])) | ((with_reducible refine gate_callee (f := 34) rfl ?_); (with_reducible refine gate_dst (N := 29) rfl ?_); refine gL (some 29) Try.func34 #[.agg #[.slice A49 t38.length c50, .slice A51 t39.length c52, .int .i64 t40, .int .i64 t41, .int .i64 t42, .slice A53 t43.length c54]] ?_; refine (impl_Recover.calls k _ _ t38 _ _ t39 t40 t41 t42 _ _ t43 t61 t62 _ (diskC0 (Sep.p1 HS.out)) (diskL0 (Sep.p1 HS.out)) (diskC1 (Sep.p1 HS.out)) (diskL1 (Sep.p1 HS.out)) (diskC2 (Sep.p1 HS.out)) (diskL2 (Sep.p1 HS.out)) A63.out).mono ?_; rintro e w64 ⟨v65, rfl, ho0, hb⟩; refine ⟨_, rfl, ?_⟩; obtain ⟨A66, c67, hz⟩ := Kd.R_slice ho0; subst hz; replace HS := aM (Sep.row HS.out hb HB.out.size ho0); replace HB := aM (below_step HB.out hb); clear ho0 hb; (simp only [Act.put, List.setIfInBounds_toArray, List.set_cons_zero, List.set_cons_succ])) | ((with_reducible refine gate_callee (f := 23) rfl ?_); (with_reducible refine gate_dst (N := 38) rfl ?_); refine gGd rfl ?_; refine gL (some 38) Try.func23 #[.slice A66 t62.length c67, .slice A34 t30.length c35] ?_; refine (laws_eqByteS.calls k _ _ t62 _ _ t30 true _ (rowC (Sep.p0 HS.out)) (rowL (Sep.p0 HS.out)) (rowC (Sep.p3 HS.out)) (rowL (Sep.p3 HS.out)) A72.out).mono ?_; rintro e w73 ⟨rfl, hd⟩; have hb := hd.below; clear hd; refine ⟨_, rfl, ?_⟩; replace HS := aM (HS.out.below hb); replace HB := aM (below_step HB.out hb); clear hb; (simp only [Act.put, List.setIfInBounds_toArray, List.set_cons_zero, List.set_cons_succ])))
  replace HS := aM (HS.out.below (bd1 rfl))
  replace HB := aM (below_step HB.out (bd1 rfl))
  refine start_ (n := 5) (S := fun w' => w'.cell? ⟨g56, 0, none⟩ = some (.slice A49 t38.length c50) ∧ w'.cell? ⟨g56, 1, none⟩ = some (.slice A51 t39.length c52) ∧ w'.cell? ⟨g56, 2, none⟩ = some (.int .i64 t40) ∧ w'.cell? ⟨g56, 3, none⟩ = some (.int .i64 t41) ∧ w'.cell? ⟨g56, 4, none⟩ = some (.int .i64 t42) ∧ w'.cell? ⟨g56, 5, none⟩ = some (.slice A53 t43.length c54) ∧ w'.cell? ⟨g1, 0, none⟩ = some (.slice A0_0 l0_0.length c0_0) ∧ w'.cell? ⟨g1, 1, none⟩ = some (.slice A0_1 l0_1.length c0_1) ∧ w'.cell? ⟨g1, 2, none⟩ = some (.int .i64 a0_2) ∧ w'.cell? ⟨g1, 3, none⟩ = some (.int .i64 a0_3) ∧ w'.cell? ⟨g1, 4, none⟩ = some (.int .i64 a0_4) ∧ w'.cell? ⟨g1, 5, none⟩ = some (.slice A0_5 l0_5.length c0_5)) (ds := []) (Array.replicate 5 false) (by kernel_rfl) rfl rfl ⟨(blk_cell (blkP (Sep.p1 HS.out)) 0).trans rfl, (blk_cell (blkP (Sep.p1 HS.out)) 1).trans rfl, (blk_cell (blkP (Sep.p1 HS.out)) 2).trans rfl, (blk_cell (blkP (Sep.p1 HS.out)) 3).trans rfl, (blk_cell (blkP (Sep.p1 HS.out)) 4).trans rfl, (blk_cell (blkP (Sep.p1 HS.out)) 5).trans rfl, (blk_cell (blkP (Sep.p5 HS.out)) 0).trans rfl, (blk_cell (blkP (Sep.p5 HS.out)) 1).trans rfl, (blk_cell (blkP (Sep.p5 HS.out)) 2).trans rfl, (blk_cell (blkP (Sep.p5 HS.out)) 3).trans rfl, (blk_cell (blkP (Sep.p5 HS.out)) 4).trans rfl, (blk_cell (blkP (Sep.p5 HS.out)) 5).trans rfl⟩ (fun hHeld => ?_)
  generalize hw_ : World.drew _ = w74 at HS HB hHeld ⊢
  clear hw_
  refine pT 0 (some 41) ?_
  refine pT 1 (some 42) ?_
  refine pO 2 (some 43) (fun K hK => ?_)
  refine gG Try.func17 #[.agg #[.slice A0_0 l0_0.length c0_0, .slice A0_1 l0_1.length c0_1, .int .i64 a0_2, .int .i64 a0_3, .int .i64 a0_4, .slice A0_5 l0_5.length c0_5]] ?_
  refine (laws_toDisk.calls k _ _ l0_0 _ _ l0_1 a0_2 a0_3 a0_4 _ _ l0_5 t76 t77 t78 t79 t80 t81 _ (Kd.C_below HR0_0.out.1 HB.out) HR0_0.out.2 (Kd.C_below HR0_1.out.1 HB.out) HR0_1.out.2 (Kd.C_below HR0_5.out.1 HB.out) HR0_5.out.2 A82.out).mono ?_
  rintro e w83 ⟨v84, v85, v86, rfl, ho0, ho1, ho2, hb⟩; refine ⟨_, rfl, ?_⟩
  obtain ⟨A87, c88, hz⟩ := Kd.R_slice ho0; subst hz
  obtain ⟨A89, c90, hz⟩ := Kd.R_slice ho1; subst hz
  obtain ⟨A91, c92, hz⟩ := Kd.S_slice ho2; subst hz
  replace HS := aM (Sep.disk HS.out hb HB.out.size ho0 ho1 ho2)
  replace HB := aM (below_step HB.out hb)
  clear ho0 ho1 ho2 hb
  refine hK.out _ _ ⟨(blk_cell (blkP (Sep.p2 HS.out)) 0).trans rfl, (blk_cell (blkP (Sep.p2 HS.out)) 1).trans rfl, (blk_cell (blkP (Sep.p2 HS.out)) 2).trans rfl, (blk_cell (blkP (Sep.p2 HS.out)) 3).trans rfl, (blk_cell (blkP (Sep.p2 HS.out)) 4).trans rfl, (blk_cell (blkP (Sep.p2 HS.out)) 5).trans rfl, (blk_cell (blkP (Sep.p6 HS.out)) 0).trans rfl, (blk_cell (blkP (Sep.p6 HS.out)) 1).trans rfl, (blk_cell (blkP (Sep.p6 HS.out)) 2).trans rfl, (blk_cell (blkP (Sep.p6 HS.out)) 3).trans rfl, (blk_cell (blkP (Sep.p6 HS.out)) 4).trans rfl, (blk_cell (blkP (Sep.p6 HS.out)) 5).trans rfl⟩ (fun hHeld => ?_)
  clear hK K
  refine nR ?_
  refine pO 3 (some 44) (fun K hK => ?_)
  refine gG Try.func19 #[.agg #[.slice A49 t38.length c50, .slice A51 t39.length c52, .int .i64 t40, .int .i64 t41, .int .i64 t42, .slice A53 t43.length c54], .agg #[.slice A87 t76.length c88, .slice A89 t77.length c90, .int .i64 t78, .int .i64 t79, .int .i64 t80, .slice A91 t81.length c92]] ?_
  refine (laws_eqDisk.calls k _ _ t38 _ _ t39 t40 t41 t42 _ _ t43 _ _ t76 _ _ t77 t78 t79 t80 _ _ t81 true _ (diskC0 (Sep.p3 HS.out)) (diskL0 (Sep.p3 HS.out)) (diskC1 (Sep.p3 HS.out)) (diskL1 (Sep.p3 HS.out)) (diskC2 (Sep.p3 HS.out)) (diskL2 (Sep.p3 HS.out)) (diskC0 (Sep.p0 HS.out)) (diskL0 (Sep.p0 HS.out)) (diskC1 (Sep.p0 HS.out)) (diskL1 (Sep.p0 HS.out)) (diskC2 (Sep.p0 HS.out)) (diskL2 (Sep.p0 HS.out)) A96.out).mono ?_
  rintro e w97 ⟨rfl, hb⟩; refine ⟨_, rfl, ?_⟩
  replace HS := aM (HS.out.below hb)
  replace HB := aM (below_step HB.out hb)
  clear hb
  refine hK.out _ _ ⟨(blk_cell (blkP (Sep.p2 HS.out)) 0).trans rfl, (blk_cell (blkP (Sep.p2 HS.out)) 1).trans rfl, (blk_cell (blkP (Sep.p2 HS.out)) 2).trans rfl, (blk_cell (blkP (Sep.p2 HS.out)) 3).trans rfl, (blk_cell (blkP (Sep.p2 HS.out)) 4).trans rfl, (blk_cell (blkP (Sep.p2 HS.out)) 5).trans rfl, (blk_cell (blkP (Sep.p6 HS.out)) 0).trans rfl, (blk_cell (blkP (Sep.p6 HS.out)) 1).trans rfl, (blk_cell (blkP (Sep.p6 HS.out)) 2).trans rfl, (blk_cell (blkP (Sep.p6 HS.out)) 3).trans rfl, (blk_cell (blkP (Sep.p6 HS.out)) 4).trans rfl, (blk_cell (blkP (Sep.p6 HS.out)) 5).trans rfl⟩ (fun hHeld => ?_)
  clear hK K
  refine nR ?_
  refine pP 4 (some 45) ?_
  refine done_ (by kernel_rfl) ?_
  replace h := bE h; obtain ⟨⟨t99, t100, t101, t102⟩, A103, h⟩ := h
  dsimp only at h
  replace h := ifM h; obtain ⟨c105, h⟩ := h
  have c105b : decide (t99 < 0) = false := decide_eq_false c105
  clear c105
  replace h := ifN h; obtain ⟨c106, h⟩ := h
  have c106b : (t61 != t29) = false := bne_eq_false_iff_eq.mpr c106
  clear c106
  replace h := bE h; obtain ⟨t108, A109, h⟩ := h
  replace h := ifN h; obtain ⟨hq, h⟩ := h
  subst hq
  replace h := bE h; obtain ⟨⟨t112, t113⟩, A114, h⟩ := h
  dsimp only at h
  replace h := bE h; obtain ⟨t117, A118, h⟩ := h
  replace h := ifM h; obtain ⟨c120, h⟩ := h
  have c120b : decide (t117 < 0) = false := decide_eq_false c120
  clear c120
  replace h := ifN h; obtain ⟨c121, h⟩ := h
  have c121b : (t117 != t112) = false := bne_eq_false_iff_eq.mpr c121
  clear c121
  replace h := bE h; obtain ⟨⟨t123, t124, t125, t126, t127, t128⟩, A129, h⟩ := h
  dsimp only at h
  replace h := bE h; obtain ⟨⟨t142, t143⟩, A144, h⟩ := h
  dsimp only at h
  replace h := ifN h; obtain ⟨c150, h⟩ := h
  have c150b : (t142 != t29) = false := bne_eq_false_iff_eq.mpr c150
  clear c150
  replace h := bE h; obtain ⟨t152, A153, h⟩ := h
  replace h := ifN h; obtain ⟨hq, h⟩ := h
  subst hq
  replace h := bE h; obtain ⟨t156, A157, h⟩ := h
  replace h := ifM h; obtain ⟨c159, h⟩ := h
  have c159b : decide (t156 < 0) = false := decide_eq_false c159
  clear c159
  replace h := ifN h; obtain ⟨c160, h⟩ := h
  have c160b : (t156 != t112) = false := bne_eq_false_iff_eq.mpr c160
  clear c160
  go_wp2_with (first | ((with_reducible refine gate_dst (N := 46) rfl ?_); refine gLd 46 (blkP (Sep.p2 HS.out)) ?_; (simp only [Act.put, List.setIfInBounds_toArray, List.set_cons_zero, List.set_cons_succ])) | ((with_reducible refine gate_callee (f := 25) rfl ?_); (with_reducible refine gate_dst (N := 48) rfl ?_); refine gL (some 48) Try.func25 #[.agg #[.slice A49 t38.length c50, .slice A51 t39.length c52, .int .i64 t40, .int .i64 t41, .int .i64 t42, .slice A53 t43.length c54], .int .i64 1] ?_; replace HS := aM (Sep.f3 HS.out); refine (laws_markDisk.calls k _ _ _ t38 _ _ t39 t40 t41 t42 _ _ t43 1 t99 t100 t101 t102 w _ HB.out (Sep.p0 HS.out) A103.out).mono ?_; rintro e w104 ⟨rfl, hd, hb, hk⟩; refine ⟨_, rfl, ?_⟩; replace HS := aM (Sep.put HS.out (KeptR.of_kept hk (fun _ q => q)) (iDisk _ _ _ _ _ _ t100 t101 t102) rfl rfl hd); replace HB := aM hb; have e0 := (Kd.R_reads' hd.1).1; have e1 := (Kd.R_reads' hd.2.1).1; have e2 := (Kd.S_reads' hd.2.2).1; clear hd hb hk; simp only [e0, e1, e2] at HS ⊢; clear e0 e1 e2; (simp only [Act.put, List.setIfInBounds_toArray, List.set_cons_zero, List.set_cons_succ])) | ((with_reducible refine gate_callee (f := 23) rfl ?_); (with_reducible refine gate_dst (N := 59) rfl ?_); refine gGd rfl ?_; refine gL (some 59) Try.func23 #[.slice A66 t62.length c67, .slice A34 t30.length c35] ?_; refine (laws_eqByteS.calls k _ _ t62 _ _ t30 true _ (rowC (Sep.p2 HS.out)) (rowL (Sep.p2 HS.out)) (rowC (Sep.p4 HS.out)) (rowL (Sep.p4 HS.out)) A109.out).mono ?_; rintro e w110 ⟨rfl, hd⟩; have hb := hd.below; clear hd; refine ⟨_, rfl, ?_⟩; replace HS := aM (HS.out.below hb); replace HB := aM (below_step HB.out hb); clear hb; (simp only [Act.put, List.setIfInBounds_toArray, List.set_cons_zero, List.set_cons_succ])) | ((with_reducible refine gate_callee (f := 24) rfl ?_); (with_reducible refine gate_dst (N := 64) rfl ?_); refine gL (some 64) Try.func24 #[.slice A66 t62.length c67, .int .i64 1] ?_; replace HS := aM (Sep.f2 HS.out); refine (laws_markByteS.calls k _ _ t62 1 t112 t113 w _ HB.out (Sep.p0 HS.out) A114.out).mono ?_; rintro e w115 ⟨rfl, hd, hb, hk⟩; refine ⟨_, rfl, ?_⟩; replace HS := aM (Sep.put HS.out (KeptR.of_kept hk (fun _ q => q)) (iRow (Kd.int .u8) 5 _ _ _ _ t113) rfl rfl (Kd.R_reok rfl hd (fun k e => (Sep.p0 HS.out).1 k e))); replace HB := aM hb; have e0 := (Kd.R_reads' hd).1; clear hd hb hk; simp only [e0] at HS ⊢; clear e0; (simp only [Act.put, List.setIfInBounds_toArray, List.set_cons_zero, List.set_cons_succ])) | ((with_reducible refine gate_callee (f := 35) rfl ?_); (with_reducible refine gate_dst (N := 67) rfl ?_); refine gL (some 67) Try.func35 #[.slice A66 t113.length c67, .int .i64 1] ?_; refine (laws_heldByteS.calls k _ _ t113 1 t117 _ (rowC (Sep.p0 HS.out)) (rowL (Sep.p0 HS.out)) A118.out).mono ?_; rintro e w119 ⟨rfl, hd⟩; have hb := hd.below; clear hd; refine ⟨_, rfl, ?_⟩; replace HS := aM (HS.out.below hb); replace HB := aM (below_step HB.out hb); clear hb; (simp only [Act.put, List.setIfInBounds_toArray, List.set_cons_zero, List.set_cons_succ])) | ((with_reducible refine gate_dst (N := 74) rfl ?_); refine gLd 74 (blkP (Sep.p6 HS.out)) ?_; (simp only [Act.put, List.setIfInBounds_toArray, List.set_cons_zero, List.set_cons_succ])) | ((with_reducible refine gate_callee (f := 17) rfl ?_); (with_reducible refine gate_dst (N := 75) rfl ?_); refine gL (some 75) Try.func17 #[.agg #[.slice A0_0 l0_0.length c0_0, .slice A0_1 l0_1.length c0_1, .int .i64 a0_2, .int .i64 a0_3, .int .i64 a0_4, .slice A0_5 l0_5.length c0_5]] ?_; refine (laws_toDisk.calls k _ _ l0_0 _ _ l0_1 a0_2 a0_3 a0_4 _ _ l0_5 t123 t124 t125 t126 t127 t128 _ (Kd.C_below HR0_0.out.1 HB.out) HR0_0.out.2 (Kd.C_below HR0_1.out.1 HB.out) HR0_1.out.2 (Kd.C_below HR0_5.out.1 HB.out) HR0_5.out.2 A129.out).mono ?_; rintro e w130 ⟨v131, v132, v133, rfl, ho0, ho1, ho2, hb⟩; refine ⟨_, rfl, ?_⟩; obtain ⟨A134, c135, hz⟩ := Kd.R_slice ho0; subst hz; obtain ⟨A136, c137, hz⟩ := Kd.R_slice ho1; subst hz; obtain ⟨A138, c139, hz⟩ := Kd.S_slice ho2; subst hz; replace HS := aM (Sep.disk HS.out hb HB.out.size ho0 ho1 ho2); replace HB := aM (below_step HB.out hb); clear ho0 ho1 ho2 hb; (simp only [Act.put, List.setIfInBounds_toArray, List.set_cons_zero, List.set_cons_succ])) | ((with_reducible refine gate_callee (f := 34) rfl ?_); (with_reducible refine gate_dst (N := 76) rfl ?_); refine gL (some 76) Try.func34 #[.agg #[.slice A134 t123.length c135, .slice A136 t124.length c137, .int .i64 t125, .int .i64 t126, .int .i64 t127, .slice A138 t128.length c139]] ?_; refine (impl_Recover.calls k _ _ t123 _ _ t124 t125 t126 t127 _ _ t128 t142 t143 _ (diskC0 (Sep.p0 HS.out)) (diskL0 (Sep.p0 HS.out)) (diskC1 (Sep.p0 HS.out)) (diskL1 (Sep.p0 HS.out)) (diskC2 (Sep.p0 HS.out)) (diskL2 (Sep.p0 HS.out)) A144.out).mono ?_; rintro e w145 ⟨v146, rfl, ho0, hb⟩; refine ⟨_, rfl, ?_⟩; obtain ⟨A147, c148, hz⟩ := Kd.R_slice ho0; subst hz; replace HS := aM (Sep.row HS.out hb HB.out.size ho0); replace HB := aM (below_step HB.out hb); clear ho0 hb; (simp only [Act.put, List.setIfInBounds_toArray, List.set_cons_zero, List.set_cons_succ])) | ((with_reducible refine gate_callee (f := 23) rfl ?_); (with_reducible refine gate_dst (N := 85) rfl ?_); refine gGd rfl ?_; refine gL (some 85) Try.func23 #[.slice A147 t143.length c148, .slice A34 t30.length c35] ?_; refine (laws_eqByteS.calls k _ _ t143 _ _ t30 true _ (rowC (Sep.p0 HS.out)) (rowL (Sep.p0 HS.out)) (rowC (Sep.p6 HS.out)) (rowL (Sep.p6 HS.out)) A153.out).mono ?_; rintro e w154 ⟨rfl, hd⟩; have hb := hd.below; clear hd; refine ⟨_, rfl, ?_⟩; replace HS := aM (HS.out.below hb); replace HB := aM (below_step HB.out hb); clear hb; (simp only [Act.put, List.setIfInBounds_toArray, List.set_cons_zero, List.set_cons_succ])) | ((with_reducible refine gate_callee (f := 35) rfl ?_); (with_reducible refine gate_dst (N := 90) rfl ?_); refine gL (some 90) Try.func35 #[.slice A66 t113.length c67, .int .i64 1] ?_; refine (laws_heldByteS.calls k _ _ t113 1 t156 _ (rowC (Sep.p2 HS.out)) (rowL (Sep.p2 HS.out)) A157.out).mono ?_; rintro e w158 ⟨rfl, hd⟩; have hb := hd.below; clear hd; refine ⟨_, rfl, ?_⟩; replace HS := aM (HS.out.below hb); replace HB := aM (below_step HB.out hb); clear hb; (simp only [Act.put, List.setIfInBounds_toArray, List.set_cons_zero, List.set_cons_succ])))
  obtain rfl := Option.some.inj h
  (try go_wp2)
  go_ret
  exact ⟨rfl, HB.out⟩

end Go.Proofs.Ytogilihkphjjbaa.Q
